/- What the functions come to in the machine; no conditions. -/
import Derived.Test.YtkpkgfollnfhcaaGreatDoorTab
import Derived.Test.YtkpkgfollnfhcaaGreatDoorMc
set_option linter.unusedSectionVars false
set_option linter.unusedVariables false
set_option linter.unusedSimpArgs false
namespace M
open Go
theorem Ii (l : List ah) (hlen : l.length≤9223372036854775807) (hb : bL bS l) (n : Int) (hn : 0≤n) (hm : n≤9223372036854775807) : aK (ai (ev LI TT) (ak TT) oX) [(0,.row .af 1 (l.map (eS))),(1,.int .i64 n),(5,.int .i64 0)] = if dM (fun b n=>aJ n (wS b)) (l) n < 0 then some (.ret,[(4,.int .i64 (-1))]) else some (.exit 0,[(0,.row .af 1 (l.map (eS))),(1,.int .i64 (dM (fun b n=>aJ n (wS b)) (l) n)),(5,.int .i64 (l).length),(15,.bool false)]):=by
 refine sQ (f:=ai (ev LI TT) (ak TT) oX) (l) (fun i n=>[(0,.row .af 1 (l.map (eS))),(1,.int .i64 n),(5,.int .i64 i)]) (fun b n=>aJ n (wS b)) _ (fun n=>[(0,.row .af 1 (l.map (eS))),(1,.int .i64 n),(5,.int .i64 (l).length),(15,.bool false)]) n hn hm (fun b n=>tY _ n) (fun i b n hi hl hn hm=>?_) (fun n=>?_)
 ·have hw:=aT i (by first | omega | (simp at hl; omega))
  obtain ⟨_,rfl⟩:=List.getElem?_eq_some_iff.1 hi
  have h1 : (l[i]).length≤9223372036854775807:=hb.2 _ (List.getElem_mem hl)
  have h3:=b8 n (wS l[i])
  have h4 : wS l[i] = (l[i]).length:=rfl
  obtain ⟨m,e1⟩ : ∃ m,m = n - ((l[i]).length : Int):=⟨_,rfl⟩
  have h2 : IntKind.i64.wrap (n - ((l[i]).length : Int)) = m:=by rw [e1]; exact aO (by omega) (by omega)
  by_cases h5 : m < 0
  ·have ef : aJ n (wS l[i]) = -1:=by omega
   simp -implicitDefEqProofs [oX,wM,hl,hw,h2,h5,ef]
  have ef : aJ n (wS l[i]) = m:=by omega
  simp -implicitDefEqProofs [oX,wM,hl,hw,h2,h5,ef]
 ·simp -implicitDefEqProofs [oX,wM]
theorem y8 (l : List ah) (n : Int) (hb : bL bS l) (hn : 0≤n) (hm : n≤9223372036854775807) : ev LI TT 105 [.row .af 1 (l.map (eS)),.int .i64 n] = some (.int .i64 (aJ n (wL wS l)),[.dead,.dead]):=by
 rw [az (b:=oY) (rs:=[.t 4]) (n:=2) rfl rfl]
 have hl:=hb.1
 have hw : wL wS l = l.length + (l.map wS).sum:=rfl
 have ht:=b8 n (wL wS l)
 obtain ⟨m,e1⟩ : ∃ m,m = n - (l.length : Int):=⟨_,rfl⟩
 have h2 : IntKind.i64.wrap (n - (l.length : Int)) = m:=by rw [e1]; exact aO (by omega) (by omega)
 by_cases h : m < 0
 ·have ef : aJ n (wL wS l) = -1:=by omega
  simp -implicitDefEqProofs [oY,h2,h,ef]
 have h3:=Ii  l hb.1 hb m (by omega) (by omega)
 rw [pV _ _ _ (by omega)] at h3
 have hs:=b8 m (l.map wS).sum
 obtain ⟨q,e2⟩ : ∃ q,q = aJ m (l.map wS).sum:=⟨_,rfl⟩
 rw [← e2] at h3 hs
 try simp at h3
 by_cases h4 : q < 0
 ·have ef : aJ n (wL wS l) = -1:=by omega
  simp only [h4,if_true] at h3
  simp -implicitDefEqProofs [oY,h2,h,h3,ef]
 have ef : aJ n (wL wS l) = q:=by omega
 simp only [h4,if_false] at h3
 simp -implicitDefEqProofs [oY,h2,h,h3,ef]
 all_goals (repeat' split) <;> first | rfl | omega | (simp_all; done) | (simp_all; omega) | skip
theorem Io (l : List ah) (hlen : l.length≤1048576) (hb : wL wS l≤1048576) : aK (ai (ev LI TT) (ak TT) sL) [(0,.row .af 1 (l.map eS)),(3,.row .own 1 (cX (l.map eS) 0 [.str ⟨#[]⟩])),(4,.int .i64 0),(6,.int .i64 l.length)] = some (.exit 0,[(0,.row .af 1 (l.map eS)),(3,.row .own 1 (l.map eS)),(4,.int .i64 (l).length),(6,.int .i64 l.length),(11,.bool false)]):=by
 refine eP (f:=ai (ev LI TT) (ak TT) sL) (l) (fun i=>[(0,.row .af 1 (l.map eS)),(3,.row .own 1 (cX (l.map eS) i [.str ⟨#[]⟩])),(4,.int .i64 i),(6,.int .i64 l.length)]) _ (fun i b hi hl=>?_) ?_
 ·have hw:=aT i (by first | omega | (simp at hl; omega))
  obtain ⟨_,rfl⟩:=List.getElem?_eq_some_iff.1 hi
  skip
  simp -implicitDefEqProofs [sL,Bw,hl,hw]
  first | done | (rw [jr _ _ _ _ (by simpa using hl) (by simp)]; done) | (simp only [jF]; rw [jr _ _ _ _ (by simpa using hl) (by simp)])
 ·simp -implicitDefEqProofs [sL,Bw]
theorem y9 (l : List ah) (hb : wL wS l≤1048576) : ev LI TT 111 [.row .af 1 (l.map eS)] = some (.row .own 1 (l.map eS),[.dead]):=by
 rw [az (b:=wY) (rs:=[.t 2]) (n:=1) rfl rfl]
 have hlen:=br (w:=wS) l
 have h:=Io  l (by omega) hb
 try simp at h
 simp -implicitDefEqProofs [wY,h,(by omega : (l.length : Int) * 16≤140737488355328)]
 all_goals (repeat' split) <;> first | rfl | omega | (simp_all; done) | (simp_all; omega) | skip
theorem HU (ps : List (ah×ah)) (hb : ps.length≤9223372036854775807) (fu : ∀ x∈ps,wS x.1≤1073741824) : aK (ai (ev LI TT) (ak TT) r8) [(0,.row .af 1 (ps.map (fun x : ah×ah=>eS x.1))),(1,.row .af 1 (ps.map (fun x : ah×ah=>eS x.2))),(5,.int .i64 0)] = if aS cL (ps) = true then some (.exit 0,[(0,.row .af 1 (ps.map (fun x : ah×ah=>eS x.1))),(1,.row .af 1 (ps.map (fun x : ah×ah=>eS x.2))),(5,.int .i64 ps.length),(14,.bool false)]) else some (.ret,[(4,.bool false)]):=by
 refine cN (f:=ai (ev LI TT) (ak TT) r8) (ps) (fun i=>[(0,.row .af 1 (ps.map (fun x : ah×ah=>eS x.1))),(1,.row .af 1 (ps.map (fun x : ah×ah=>eS x.2))),(5,.int .i64 i)]) cL _ _ (fun i b hi hl=>?_) ?_
 ·have hw:=aT i (by first | omega | (simp at hl; omega))
  obtain ⟨_,rfl⟩:=List.getElem?_eq_some_iff.1 hi
  simp -implicitDefEqProofs [r8,Ba,hl,hw,cL]
  first | done | (split <;> simp_all)
 ·simp -implicitDefEqProofs [r8,Ba]
theorem yZ (a b : List ah) (hb : wL wS a≤1073741824) : ev LI TT 77 [.row .af 1 (a.map eS),.row .af 1 (b.map eS)] = some (.bool (decide (a = b)),[.dead,.dead]):=by
 rw [az (b:=wm) (rs:=[.t 4]) (n:=2) rfl rfl]
 simp -implicitDefEqProofs [wm]
 have hlen:=br (w:=wS) a
 by_cases h : a.length = b.length
 ·obtain ⟨ps,rfl,rfl⟩:=nW h
  have h1:=HU  ps (by simp at hlen; omega) (fun x hx=>Nat.le_trans (gD (List.mem_map_of_mem hx)) hb)
  have h2:=mA ps
  simp at h1
  rw [← h2]
  cases h3 : aS cL ps <;> rw [h3] at h1 <;> simp [h1,Function.comp_def]
 ·have : ¬ a = b:=fun e=>h (by rw [e])
  simp [this]
  omega
theorem Kl (a : Wr) (n : Int) (hb : n8 a) (hn : 0≤n) (hm : n≤9223372036854775807) : ev LI TT 211 [.agg (eW a),.int .i64 n] = some (.int .i64 (aJ n (bk a)),[.dead,.dead]):=by
 rw [az (b:=sH) (rs:=[.t 4]) (n:=2) rfl rfl]
 have hw : bk a = a.text.length:=rfl
 have ht:=b8 n (bk a)
 have oA : a.text.length≤9223372036854775807:=hb.PU
 obtain ⟨m1,e1⟩ : ∃ m,m = n - (a.text.length : Int):=⟨_,rfl⟩
 have c1 : IntKind.i64.wrap (n - (a.text.length : Int)) = m1:=by rw [e1]; exact aO (by omega) (by omega)
 by_cases h1 : m1 < 0
 ·have ef : aJ n (bk a) = -1:=by omega
  simp -implicitDefEqProofs [sH,c1,h1,ef]
 have ef : aJ n (bk a) = m1:=by omega
 simp -implicitDefEqProofs [sH,c1,h1,ef]
 all_goals (repeat' split) <;> first | rfl | omega | (simp_all; done) | (simp_all; omega) | skip
theorem Ky (a : Wr) (hb : bk a≤1048576) : ev LI TT 218 [.agg (eW a)] = some (.agg (eW a),[.dead]):=by
 rw [az (b:=w4) (rs:=[.c 2 2 true 246]) (n:=1) rfl rfl]
 have hw : bk a = a.text.length:=rfl
 simp -implicitDefEqProofs [w4,hw]
 all_goals (repeat' split) <;> first | rfl | omega | (simp_all; done) | (simp_all; omega) | skip
theorem JZ (a b : Wr) (hb : bk a≤1073741824) : ev LI TT 227 [.agg (eW a),.agg (eW b)] = some (.bool (decide (a = b)),[.dead,.dead]):=by
 rw [az (b:=oP) (rs:=[.t 4]) (n:=2) rfl rfl]
 have hw : bk a = a.text.length:=rfl
 rw [Ly]
 by_cases g1 : a.at_ = b.at_
 rotate_left
 ·simp -implicitDefEqProofs [oP,eq_false g1]
 by_cases g2 : a.text = b.text
 rotate_left
 ·simp -implicitDefEqProofs [oP,eq_true g1,eq_false g2]
 simp -implicitDefEqProofs [oP,eq_true g1,eq_true g2]
 all_goals (repeat' split) <;> first | rfl | omega | (simp_all; done) | (simp_all; omega) | skip
theorem Ij (l : List Wr) (hlen : l.length≤9223372036854775807) (hb : bL n8 l) (n : Int) (hn : 0≤n) (hm : n≤9223372036854775807) : aK (ai (ev LI TT) (ak TT) sG) [(0,.row .af 2 (l.map (eW))),(1,.int .i64 n),(5,.int .i64 0)] = if dM (fun b n=>aJ n (bk b)) (l) n < 0 then some (.ret,[(4,.int .i64 (-1))]) else some (.exit 0,[(0,.row .af 2 (l.map (eW))),(1,.int .i64 (dM (fun b n=>aJ n (bk b)) (l) n)),(5,.int .i64 (l).length),(15,.bool false)]):=by
 refine sQ (f:=ai (ev LI TT) (ak TT) sG) (l) (fun i n=>[(0,.row .af 2 (l.map (eW))),(1,.int .i64 n),(5,.int .i64 i)]) (fun b n=>aJ n (bk b)) _ (fun n=>[(0,.row .af 2 (l.map (eW))),(1,.int .i64 n),(5,.int .i64 (l).length),(15,.bool false)]) n hn hm (fun b n=>tY _ n) (fun i b n hi hl hn hm=>?_) (fun n=>?_)
 ·have hw:=aT i (by first | omega | (simp at hl; omega))
  obtain ⟨_,rfl⟩:=List.getElem?_eq_some_iff.1 hi
  have h2:=Kl  l[i] n (hb.2 _ (List.getElem_mem hl)) hn hm
  obtain ⟨m,e1⟩ : ∃ m,m = aJ n (bk l[i]):=⟨_,rfl⟩
  rw [← e1] at h2 ⊢
  try simp at h2
  simp -implicitDefEqProofs [sG,Br,hl,hw,h2]
 ·simp -implicitDefEqProofs [sG,Br]
theorem Km (l : List Wr) (n : Int) (hb : bL n8 l) (hn : 0≤n) (hm : n≤9223372036854775807) : ev LI TT 118 [.row .af 2 (l.map (eW)),.int .i64 n] = some (.int .i64 (aJ n (wL bk l)),[.dead,.dead]):=by
 rw [az (b:=oZ) (rs:=[.t 4]) (n:=2) rfl rfl]
 have hl:=hb.1
 have hw : wL bk l = l.length + (l.map bk).sum:=rfl
 have ht:=b8 n (wL bk l)
 obtain ⟨m,e1⟩ : ∃ m,m = n - (l.length : Int):=⟨_,rfl⟩
 have h2 : IntKind.i64.wrap (n - (l.length : Int)) = m:=by rw [e1]; exact aO (by omega) (by omega)
 by_cases h : m < 0
 ·have ef : aJ n (wL bk l) = -1:=by omega
  simp -implicitDefEqProofs [oZ,h2,h,ef]
 have h3:=Ij  l hb.1 hb m (by omega) (by omega)
 rw [pV _ _ _ (by omega)] at h3
 have hs:=b8 m (l.map bk).sum
 obtain ⟨q,e2⟩ : ∃ q,q = aJ m (l.map bk).sum:=⟨_,rfl⟩
 rw [← e2] at h3 hs
 try simp at h3
 by_cases h4 : q < 0
 ·have ef : aJ n (wL bk l) = -1:=by omega
  simp only [h4,if_true] at h3
  simp -implicitDefEqProofs [oZ,h2,h,h3,ef]
 have ef : aJ n (wL bk l) = q:=by omega
 simp only [h4,if_false] at h3
 simp -implicitDefEqProofs [oZ,h2,h,h3,ef]
 all_goals (repeat' split) <;> first | rfl | omega | (simp_all; done) | (simp_all; omega) | skip
theorem Ip (l : List Wr) (hlen : l.length≤1048576) (hb : wL bk l≤1048576) : aK (ai (ev LI TT) (ak TT) sM) [(0,.row .af 2 (l.map eW)),(3,.row .own 2 (cX (l.map eW) 0 [.int .i64 0,.str ⟨#[]⟩])),(4,.int .i64 0),(6,.int .i64 l.length)] = some (.exit 0,[(0,.row .af 2 (l.map eW)),(3,.row .own 2 (l.map eW)),(4,.int .i64 (l).length),(6,.int .i64 l.length),(11,.bool false)]):=by
 refine eP (f:=ai (ev LI TT) (ak TT) sM) (l) (fun i=>[(0,.row .af 2 (l.map eW)),(3,.row .own 2 (cX (l.map eW) i [.int .i64 0,.str ⟨#[]⟩])),(4,.int .i64 i),(6,.int .i64 l.length)]) _ (fun i b hi hl=>?_) ?_
 ·have hw:=aT i (by first | omega | (simp at hl; omega))
  obtain ⟨_,rfl⟩:=List.getElem?_eq_some_iff.1 hi
  have h:=Ky  l[i] (Nat.le_trans (gD (List.getElem_mem hl)) hb)
  try simp at h
  simp -implicitDefEqProofs [sM,Bx,hl,hw,h]
  first | done | (rw [jr _ _ _ _ (by simpa using hl) (by simp)]; done) | (simp only [jF]; rw [jr _ _ _ _ (by simpa using hl) (by simp)])
 ·simp -implicitDefEqProofs [sM,Bx]
theorem Kz (l : List Wr) (hb : wL bk l≤1048576) : ev LI TT 127 [.row .af 2 (l.map eW)] = some (.row .own 2 (l.map eW),[.dead]):=by
 rw [az (b:=wZ) (rs:=[.t 2]) (n:=1) rfl rfl]
 have hlen:=br (w:=bk) l
 have h:=Ip  l (by omega) hb
 try simp at h
 simp -implicitDefEqProofs [wZ,h,(by omega : (l.length : Int) * 24≤140737488355328)]
 all_goals (repeat' split) <;> first | rfl | omega | (simp_all; done) | (simp_all; omega) | skip
theorem HV (ps : List (Wr×Wr)) (hb : ps.length≤9223372036854775807) (fu : ∀ x∈ps,bk x.1≤1073741824) : aK (ai (ev LI TT) (ak TT) r9) [(0,.row .af 2 (ps.map (fun x : Wr×Wr=>eW x.1))),(1,.row .af 2 (ps.map (fun x : Wr×Wr=>eW x.2))),(5,.int .i64 0)] = if aS cL (ps) = true then some (.exit 0,[(0,.row .af 2 (ps.map (fun x : Wr×Wr=>eW x.1))),(1,.row .af 2 (ps.map (fun x : Wr×Wr=>eW x.2))),(5,.int .i64 ps.length),(14,.bool false)]) else some (.ret,[(4,.bool false)]):=by
 refine cN (f:=ai (ev LI TT) (ak TT) r9) (ps) (fun i=>[(0,.row .af 2 (ps.map (fun x : Wr×Wr=>eW x.1))),(1,.row .af 2 (ps.map (fun x : Wr×Wr=>eW x.2))),(5,.int .i64 i)]) cL _ _ (fun i b hi hl=>?_) ?_
 ·have hw:=aT i (by first | omega | (simp at hl; omega))
  obtain ⟨_,rfl⟩:=List.getElem?_eq_some_iff.1 hi
  have h:=JZ  (ps[i]).1 (ps[i]).2 (fu _ (List.getElem_mem hl)); try simp at h
  simp -implicitDefEqProofs [r9,Bb,hl,hw,cL,h]
 ·simp -implicitDefEqProofs [r9,Bb]
theorem J0 (a b : List Wr) (hb : wL bk a≤1073741824) : ev LI TT 132 [.row .af 2 (a.map eW),.row .af 2 (b.map eW)] = some (.bool (decide (a = b)),[.dead,.dead]):=by
 rw [az (b:=wo) (rs:=[.t 4]) (n:=2) rfl rfl]
 simp -implicitDefEqProofs [wo]
 have hlen:=br (w:=bk) a
 by_cases h : a.length = b.length
 ·obtain ⟨ps,rfl,rfl⟩:=nW h
  have h1:=HV  ps (by simp at hlen; omega) (fun x hx=>Nat.le_trans (gD (List.mem_map_of_mem hx)) hb)
  have h2:=mA ps
  simp at h1
  rw [← h2]
  cases h3 : aS cL ps <;> rw [h3] at h1 <;> simp [h1,Function.comp_def]
 ·have : ¬ a = b:=fun e=>h (by rw [e])
  simp [this]
  omega
theorem Kd (a : bW) (n : Int) (hb : yP a) (hn : 0≤n) (hm : n≤9223372036854775807) : ev LI TT 44 [.agg ((cq .af) a),.int .i64 n] = some (.int .i64 (aJ n (bJ a)),[.dead,.dead]):=by
 rw [az (b:=oS) (rs:=[.t 4]) (n:=2) rfl rfl]
 have hw : bJ a = wL wS a.cells + wL bk a.pending:=rfl
 have ht:=b8 n (bJ a)
 have c1:=y8  a.cells n hb.PJ (by omega) (by omega)
 have s1:=b8 n (wL wS a.cells)
 obtain ⟨m1,e1⟩ : ∃ m,m = aJ n (wL wS a.cells):=⟨_,rfl⟩
 rw [← e1] at c1 s1
 try simp at c1
 by_cases h1 : m1 < 0
 ·have ef : aJ n (bJ a) = -1:=by omega
  simp -implicitDefEqProofs [oS,c1,h1,ef]
 have c2:=Km  a.pending m1 hb.PS (by omega) (by omega)
 have s2:=b8 m1 (wL bk a.pending)
 obtain ⟨m2,e2⟩ : ∃ m,m = aJ m1 (wL bk a.pending):=⟨_,rfl⟩
 rw [← e2] at c2 s2
 try simp at c2
 by_cases h2 : m2 < 0
 ·have ef : aJ n (bJ a) = -1:=by omega
  simp -implicitDefEqProofs [oS,c1,h1,c2,h2,ef]
 have ef : aJ n (bJ a) = m2:=by omega
 simp -implicitDefEqProofs [oS,c1,h1,c2,h2,ef]
 all_goals (repeat' split) <;> first | rfl | omega | (simp_all; done) | (simp_all; omega) | skip
theorem Ko (a : bW) (hb : bJ a≤1048576) : ev LI TT 46 [.agg ((cq .af) a)] = some (.agg ((cq .own) a),[.dead]):=by
 rw [az (b:=wP) (rs:=[.c 2 2 true 39]) (n:=1) rfl rfl]
 have hw : bJ a = wL wS a.cells + wL bk a.pending:=rfl
 have h1:=y9  a.cells (by omega)
 try simp at h1
 have h2:=Kz  a.pending (by omega)
 try simp at h2
 simp -implicitDefEqProofs [wP,h1,h2,hw]
 all_goals (repeat' split) <;> first | rfl | omega | (simp_all; done) | (simp_all; omega) | skip
theorem JS (a b : bW) (hb : bJ a≤1073741824) : ev LI TT 48 [.agg ((cq .af) a),.agg ((cq .af) b)] = some (.bool (decide (a = b)),[.dead,.dead]):=by
 rw [az (b:=oN) (rs:=[.t 4]) (n:=2) rfl rfl]
 have hw : bJ a = wL wS a.cells + wL bk a.pending:=rfl
 rw [Ls]
 have c1:=yZ  a.cells b.cells (by omega)
 cases g1 : decide (a.cells = b.cells)
 ·rw [g1] at c1
  try simp at c1
  simp -implicitDefEqProofs [oN,c1]
 rw [g1] at c1
 try simp at c1
 have c2:=J0  a.pending b.pending (by omega)
 cases g2 : decide (a.pending = b.pending)
 ·rw [g2] at c2
  try simp at c2
  simp -implicitDefEqProofs [oN,c1,c2]
 rw [g2] at c2
 try simp at c2
 simp -implicitDefEqProofs [oN,c1,c2]
 all_goals (repeat' split) <;> first | rfl | omega | (simp_all; done) | (simp_all; omega) | skip
theorem Ke (a : aP) (n : Int) (hb : mC a) (hn : 0≤n) (hm : n≤9223372036854775807) : ev LI TT 159 [.agg (aL a),.int .i64 n] = some (.int .i64 (aJ n (aU a)),[.dead,.dead]):=by
 rw [az (b:=oU) (rs:=[.t 4]) (n:=2) rfl rfl]
 have hw : aU a = a.name.length + a.value.length:=rfl
 have ht:=b8 n (aU a)
 have oA : a.name.length≤9223372036854775807:=hb.PN
 obtain ⟨m1,e1⟩ : ∃ m,m = n - (a.name.length : Int):=⟨_,rfl⟩
 have c1 : IntKind.i64.wrap (n - (a.name.length : Int)) = m1:=by rw [e1]; exact aO (by omega) (by omega)
 by_cases h1 : m1 < 0
 ·have ef : aJ n (aU a) = -1:=by omega
  simp -implicitDefEqProofs [oU,c1,h1,ef]
 have lK : a.value.length≤9223372036854775807:=hb.PV
 obtain ⟨m2,e2⟩ : ∃ m,m = m1 - (a.value.length : Int):=⟨_,rfl⟩
 have c2 : IntKind.i64.wrap (m1 - (a.value.length : Int)) = m2:=by rw [e2]; exact aO (by omega) (by omega)
 by_cases h2 : m2 < 0
 ·have ef : aJ n (aU a) = -1:=by omega
  simp -implicitDefEqProofs [oU,c1,h1,c2,h2,ef]
 have ef : aJ n (aU a) = m2:=by omega
 simp -implicitDefEqProofs [oU,c1,h1,c2,h2,ef]
 all_goals (repeat' split) <;> first | rfl | omega | (simp_all; done) | (simp_all; omega) | skip
theorem Kq (a : aP) (hb : aU a≤1048576) : ev LI TT 167 [.agg (aL a)] = some (.agg (aL a),[.dead]):=by
 rw [az (b:=wR) (rs:=[.c 2 2 true 214]) (n:=1) rfl rfl]
 have hw : aU a = a.name.length + a.value.length:=rfl
 simp -implicitDefEqProofs [wR,hw]
 all_goals (repeat' split) <;> first | rfl | omega | (simp_all; done) | (simp_all; omega) | skip
theorem JT (a b : aP) (hb : aU a≤1073741824) : ev LI TT 171 [.agg (aL a),.agg (aL b)] = some (.bool (decide (a = b)),[.dead,.dead]):=by
 rw [az (b:=oO) (rs:=[.t 4]) (n:=2) rfl rfl]
 have hw : aU a = a.name.length + a.value.length:=rfl
 rw [Lt]
 by_cases g1 : a.name = b.name
 rotate_left
 ·simp -implicitDefEqProofs [oO,eq_false g1]
 by_cases g2 : a.value = b.value
 rotate_left
 ·simp -implicitDefEqProofs [oO,eq_true g1,eq_false g2]
 simp -implicitDefEqProofs [oO,eq_true g1,eq_true g2]
 all_goals (repeat' split) <;> first | rfl | omega | (simp_all; done) | (simp_all; omega) | skip
theorem Ig (l : List aP) (hlen : l.length≤9223372036854775807) (hb : bL mC l) (n : Int) (hn : 0≤n) (hm : n≤9223372036854775807) : aK (ai (ev LI TT) (ak TT) sD) [(0,.row .af 2 (l.map (aL))),(1,.int .i64 n),(5,.int .i64 0)] = if dM (fun b n=>aJ n (aU b)) (l) n < 0 then some (.ret,[(4,.int .i64 (-1))]) else some (.exit 0,[(0,.row .af 2 (l.map (aL))),(1,.int .i64 (dM (fun b n=>aJ n (aU b)) (l) n)),(5,.int .i64 (l).length),(15,.bool false)]):=by
 refine sQ (f:=ai (ev LI TT) (ak TT) sD) (l) (fun i n=>[(0,.row .af 2 (l.map (aL))),(1,.int .i64 n),(5,.int .i64 i)]) (fun b n=>aJ n (aU b)) _ (fun n=>[(0,.row .af 2 (l.map (aL))),(1,.int .i64 n),(5,.int .i64 (l).length),(15,.bool false)]) n hn hm (fun b n=>tY _ n) (fun i b n hi hl hn hm=>?_) (fun n=>?_)
 ·have hw:=aT i (by first | omega | (simp at hl; omega))
  obtain ⟨_,rfl⟩:=List.getElem?_eq_some_iff.1 hi
  have h2:=Ke  l[i] n (hb.2 _ (List.getElem_mem hl)) hn hm
  obtain ⟨m,e1⟩ : ∃ m,m = aJ n (aU l[i]):=⟨_,rfl⟩
  rw [← e1] at h2 ⊢
  try simp at h2
  simp -implicitDefEqProofs [sD,Bp,hl,hw,h2]
 ·simp -implicitDefEqProofs [sD,Bp]
theorem Kf (l : List aP) (n : Int) (hb : bL mC l) (hn : 0≤n) (hm : n≤9223372036854775807) : ev LI TT 69 [.row .af 2 (l.map (aL)),.int .i64 n] = some (.int .i64 (aJ n (wL aU l)),[.dead,.dead]):=by
 rw [az (b:=oT) (rs:=[.t 4]) (n:=2) rfl rfl]
 have hl:=hb.1
 have hw : wL aU l = l.length + (l.map aU).sum:=rfl
 have ht:=b8 n (wL aU l)
 obtain ⟨m,e1⟩ : ∃ m,m = n - (l.length : Int):=⟨_,rfl⟩
 have h2 : IntKind.i64.wrap (n - (l.length : Int)) = m:=by rw [e1]; exact aO (by omega) (by omega)
 by_cases h : m < 0
 ·have ef : aJ n (wL aU l) = -1:=by omega
  simp -implicitDefEqProofs [oT,h2,h,ef]
 have h3:=Ig  l hb.1 hb m (by omega) (by omega)
 rw [pV _ _ _ (by omega)] at h3
 have hs:=b8 m (l.map aU).sum
 obtain ⟨q,e2⟩ : ∃ q,q = aJ m (l.map aU).sum:=⟨_,rfl⟩
 rw [← e2] at h3 hs
 try simp at h3
 by_cases h4 : q < 0
 ·have ef : aJ n (wL aU l) = -1:=by omega
  simp only [h4,if_true] at h3
  simp -implicitDefEqProofs [oT,h2,h,h3,ef]
 have ef : aJ n (wL aU l) = q:=by omega
 simp only [h4,if_false] at h3
 simp -implicitDefEqProofs [oT,h2,h,h3,ef]
 all_goals (repeat' split) <;> first | rfl | omega | (simp_all; done) | (simp_all; omega) | skip
theorem Il (l : List aP) (hlen : l.length≤1048576) (hb : wL aU l≤1048576) : aK (ai (ev LI TT) (ak TT) sJ) [(0,.row .af 2 (l.map aL)),(3,.row .own 2 (cX (l.map aL) 0 [.str ⟨#[]⟩,.str ⟨#[]⟩])),(4,.int .i64 0),(6,.int .i64 l.length)] = some (.exit 0,[(0,.row .af 2 (l.map aL)),(3,.row .own 2 (l.map aL)),(4,.int .i64 (l).length),(6,.int .i64 l.length),(11,.bool false)]):=by
 refine eP (f:=ai (ev LI TT) (ak TT) sJ) (l) (fun i=>[(0,.row .af 2 (l.map aL)),(3,.row .own 2 (cX (l.map aL) i [.str ⟨#[]⟩,.str ⟨#[]⟩])),(4,.int .i64 i),(6,.int .i64 l.length)]) _ (fun i b hi hl=>?_) ?_
 ·have hw:=aT i (by first | omega | (simp at hl; omega))
  obtain ⟨_,rfl⟩:=List.getElem?_eq_some_iff.1 hi
  have h:=Kq  l[i] (Nat.le_trans (gD (List.getElem_mem hl)) hb)
  try simp at h
  simp -implicitDefEqProofs [sJ,Bu,hl,hw,h]
  first | done | (rw [jr _ _ _ _ (by simpa using hl) (by simp)]; done) | (simp only [jF]; rw [jr _ _ _ _ (by simpa using hl) (by simp)])
 ·simp -implicitDefEqProofs [sJ,Bu]
theorem Kr (l : List aP) (hb : wL aU l≤1048576) : ev LI TT 75 [.row .af 2 (l.map aL)] = some (.row .own 2 (l.map aL),[.dead]):=by
 rw [az (b:=wQ) (rs:=[.t 2]) (n:=1) rfl rfl]
 have hlen:=br (w:=aU) l
 have h:=Il  l (by omega) hb
 try simp at h
 simp -implicitDefEqProofs [wQ,h,(by omega : (l.length : Int) * 32≤140737488355328)]
 all_goals (repeat' split) <;> first | rfl | omega | (simp_all; done) | (simp_all; omega) | skip
theorem HS (ps : List (aP×aP)) (hb : ps.length≤9223372036854775807) (fu : ∀ x∈ps,aU x.1≤1073741824) : aK (ai (ev LI TT) (ak TT) rZ) [(0,.row .af 2 (ps.map (fun x : aP×aP=>aL x.1))),(1,.row .af 2 (ps.map (fun x : aP×aP=>aL x.2))),(5,.int .i64 0)] = if aS cL (ps) = true then some (.exit 0,[(0,.row .af 2 (ps.map (fun x : aP×aP=>aL x.1))),(1,.row .af 2 (ps.map (fun x : aP×aP=>aL x.2))),(5,.int .i64 ps.length),(14,.bool false)]) else some (.ret,[(4,.bool false)]):=by
 refine cN (f:=ai (ev LI TT) (ak TT) rZ) (ps) (fun i=>[(0,.row .af 2 (ps.map (fun x : aP×aP=>aL x.1))),(1,.row .af 2 (ps.map (fun x : aP×aP=>aL x.2))),(5,.int .i64 i)]) cL _ _ (fun i b hi hl=>?_) ?_
 ·have hw:=aT i (by first | omega | (simp at hl; omega))
  obtain ⟨_,rfl⟩:=List.getElem?_eq_some_iff.1 hi
  have h:=JT  (ps[i]).1 (ps[i]).2 (fu _ (List.getElem_mem hl)); try simp at h
  simp -implicitDefEqProofs [rZ,A8,hl,hw,cL,h]
 ·simp -implicitDefEqProofs [rZ,A8]
theorem JU (a b : List aP) (hb : wL aU a≤1073741824) : ev LI TT 81 [.row .af 2 (a.map aL),.row .af 2 (b.map aL)] = some (.bool (decide (a = b)),[.dead,.dead]):=by
 rw [az (b:=wj) (rs:=[.t 4]) (n:=2) rfl rfl]
 simp -implicitDefEqProofs [wj]
 have hlen:=br (w:=aU) a
 by_cases h : a.length = b.length
 ·obtain ⟨ps,rfl,rfl⟩:=nW h
  have h1:=HS  ps (by simp at hlen; omega) (fun x hx=>Nat.le_trans (gD (List.mem_map_of_mem hx)) hb)
  have h2:=mA ps
  simp at h1
  rw [← h2]
  cases h3 : aS cL ps <;> rw [h3] at h1 <;> simp [h1,Function.comp_def]
 ·have : ¬ a = b:=fun e=>h (by rw [e])
  simp [this]
  omega
theorem Kj (a : cz) (n : Int) (hb : n7 a) (hn : 0≤n) (hm : n≤9223372036854775807) : ev LI TT 106 [.agg ((fk .af) a),.int .i64 n] = some (.int .i64 (aJ n (ct a)),[.dead,.dead]):=by
 rw [az (b:=oW) (rs:=[.t 4]) (n:=2) rfl rfl]
 have hw : ct a = wL aU a.fields + a.body.length:=rfl
 have ht:=b8 n (ct a)
 have c1:=Kf  a.fields n hb.FM (by omega) (by omega)
 have s1:=b8 n (wL aU a.fields)
 obtain ⟨m1,e1⟩ : ∃ m,m = aJ n (wL aU a.fields):=⟨_,rfl⟩
 rw [← e1] at c1 s1
 try simp at c1
 by_cases h1 : m1 < 0
 ·have ef : aJ n (ct a) = -1:=by omega
  simp -implicitDefEqProofs [oW,c1,h1,ef]
 have lK : a.body.length≤9223372036854775807:=hb.FL
 obtain ⟨m2,e2⟩ : ∃ m,m = m1 - (a.body.length : Int):=⟨_,rfl⟩
 have c2 : IntKind.i64.wrap (m1 - (a.body.length : Int)) = m2:=by rw [e2]; exact aO (by omega) (by omega)
 by_cases h2 : m2 < 0
 ·have ef : aJ n (ct a) = -1:=by omega
  simp -implicitDefEqProofs [oW,c1,h1,c2,h2,ef]
 have ef : aJ n (ct a) = m2:=by omega
 simp -implicitDefEqProofs [oW,c1,h1,c2,h2,ef]
 all_goals (repeat' split) <;> first | rfl | omega | (simp_all; done) | (simp_all; omega) | skip
theorem Kv (a : cz) (hb : ct a≤1048576) : ev LI TT 112 [.agg ((fk .af) a)] = some (.agg ((fk .own) a),[.dead]):=by
 rw [az (b:=wW) (rs:=[.c 2 3 true 59]) (n:=1) rfl rfl]
 have hw : ct a = wL aU a.fields + a.body.length:=rfl
 have h1:=Kr  a.fields (by omega)
 try simp at h1
 simp -implicitDefEqProofs [wW,h1,hw]
 all_goals (repeat' split) <;> first | rfl | omega | (simp_all; done) | (simp_all; omega) | skip
theorem JY (a b : cz) (hb : ct a≤1073741824) : ev LI TT 78 [.agg ((fk .af) a),.agg ((fk .af) b)] = some (.bool (decide (a = b)),[.dead,.dead]):=by
 rw [az (b:=nw) (rs:=[.t 4]) (n:=2) rfl rfl]
 have hw : ct a = wL aU a.fields + a.body.length:=rfl
 rw [Lw]
 by_cases g1 : a.status = b.status
 rotate_left
 ·simp -implicitDefEqProofs [nw,eq_false g1]
 have c2:=JU  a.fields b.fields (by omega)
 cases g2 : decide (a.fields = b.fields)
 ·rw [g2] at c2
  try simp at c2
  simp -implicitDefEqProofs [nw,eq_true g1,c2]
 rw [g2] at c2
 try simp at c2
 by_cases g3 : a.body = b.body
 rotate_left
 ·simp -implicitDefEqProofs [nw,eq_true g1,c2,eq_false g3]
 simp -implicitDefEqProofs [nw,eq_true g1,c2,eq_true g3]
 all_goals (repeat' split) <;> first | rfl | omega | (simp_all; done) | (simp_all; omega) | skip
theorem Ki (a : Ob) (n : Int) (hb : qn a) (hn : 0≤n) (hm : n≤9223372036854775807) : ev LI TT 38 [.agg ((cu .af) a),.int .i64 n] = some (.int .i64 (aJ n (b7 a)),[.dead,.dead]):=by
 rw [az (b:=lX) (rs:=[.t 4]) (n:=2) rfl rfl]
 have hw : b7 a = a.path.length + wL wS a.names + wL wS a.values + ct a.resp:=rfl
 have ht:=b8 n (b7 a)
 have oA : a.path.length≤9223372036854775807:=hb.FP
 obtain ⟨m1,e1⟩ : ∃ m,m = n - (a.path.length : Int):=⟨_,rfl⟩
 have c1 : IntKind.i64.wrap (n - (a.path.length : Int)) = m1:=by rw [e1]; exact aO (by omega) (by omega)
 by_cases h1 : m1 < 0
 ·have ef : aJ n (b7 a) = -1:=by omega
  simp -implicitDefEqProofs [lX,c1,h1,ef]
 have c2:=y8  a.names m1 hb.PO (by omega) (by omega)
 have s2:=b8 m1 (wL wS a.names)
 obtain ⟨m2,e2⟩ : ∃ m,m = aJ m1 (wL wS a.names):=⟨_,rfl⟩
 rw [← e2] at c2 s2
 try simp at c2
 by_cases h2 : m2 < 0
 ·have ef : aJ n (b7 a) = -1:=by omega
  simp -implicitDefEqProofs [lX,c1,h1,c2,h2,ef]
 have c3:=y8  a.values m2 hb.PW (by omega) (by omega)
 have s3:=b8 m2 (wL wS a.values)
 obtain ⟨m3,e3⟩ : ∃ m,m = aJ m2 (wL wS a.values):=⟨_,rfl⟩
 rw [← e3] at c3 s3
 try simp at c3
 by_cases h3 : m3 < 0
 ·have ef : aJ n (b7 a) = -1:=by omega
  simp -implicitDefEqProofs [lX,c1,h1,c2,h2,c3,h3,ef]
 have c4:=Kj  a.resp m3 hb.wg (by omega) (by omega)
 have s4:=b8 m3 (ct a.resp)
 obtain ⟨m4,e4⟩ : ∃ m,m = aJ m3 (ct a.resp):=⟨_,rfl⟩
 rw [← e4] at c4 s4
 try simp at c4
 by_cases h4 : m4 < 0
 ·have ef : aJ n (b7 a) = -1:=by omega
  simp -implicitDefEqProofs [lX,c1,h1,c2,h2,c3,h3,c4,h4,ef]
 have ef : aJ n (b7 a) = m4:=by omega
 simp -implicitDefEqProofs [lX,c1,h1,c2,h2,c3,h3,c4,h4,ef]
 all_goals (repeat' split) <;> first | rfl | omega | (simp_all; done) | (simp_all; omega) | skip
theorem Ku (a : Ob) (hb : b7 a≤1048576) : ev LI TT 40 [.agg ((cu .af) a)] = some (.agg ((cu .own) a),[.dead]):=by
 rw [az (b:=wV) (rs:=[.c 2 7 true 61]) (n:=1) rfl rfl]
 have hw : b7 a = a.path.length + wL wS a.names + wL wS a.values + ct a.resp:=rfl
 have h1:=y9  a.names (by omega)
 try simp at h1
 have h2:=y9  a.values (by omega)
 try simp at h2
 have h3:=Kv  a.resp (by omega)
 try simp at h3
 simp -implicitDefEqProofs [wV,h1,h2,h3,hw]
 all_goals (repeat' split) <;> first | rfl | omega | (simp_all; done) | (simp_all; omega) | skip
theorem JX (a b : Ob) (hb : b7 a≤1073741824) : ev LI TT 24 [.agg ((cu .af) a),.agg ((cu .af) b)] = some (.bool (decide (a = b)),[.dead,.dead]):=by
 rw [az (b:=kD) (rs:=[.t 4]) (n:=2) rfl rfl]
 have hw : b7 a = a.path.length + wL wS a.names + wL wS a.values + ct a.resp:=rfl
 rw [Lv]
 by_cases g1 : a.path = b.path
 rotate_left
 ·simp -implicitDefEqProofs [kD,eq_false g1]
 have c2:=yZ  a.names b.names (by omega)
 cases g2 : decide (a.names = b.names)
 ·rw [g2] at c2
  try simp at c2
  simp -implicitDefEqProofs [kD,eq_true g1,c2]
 rw [g2] at c2
 try simp at c2
 have c3:=yZ  a.values b.values (by omega)
 cases g3 : decide (a.values = b.values)
 ·rw [g3] at c3
  try simp at c3
  simp -implicitDefEqProofs [kD,eq_true g1,c2,c3]
 rw [g3] at c3
 try simp at c3
 have c4:=JY  a.resp b.resp (by omega)
 cases g4 : decide (a.resp = b.resp)
 ·rw [g4] at c4
  try simp at c4
  simp -implicitDefEqProofs [kD,eq_true g1,c2,c3,c4]
 rw [g4] at c4
 try simp at c4
 by_cases g5 : a.t = b.t
 rotate_left
 ·simp -implicitDefEqProofs [kD,eq_true g1,c2,c3,c4,eq_false g5]
 simp -implicitDefEqProofs [kD,eq_true g1,c2,c3,c4,eq_true g5]
 all_goals (repeat' split) <;> first | rfl | omega | (simp_all; done) | (simp_all; omega) | skip
theorem Kg (a : Kp) (n : Int) (hb : n6 a) (hn : 0≤n) (hm : n≤9223372036854775807) : ev LI TT 158 [.agg ((aB .af) a),.int .i64 n] = some (.int .i64 (aJ n (aR a)),[.dead,.dead]):=by
 rw [az (b:=sF) (rs:=[.t 4]) (n:=2) rfl rfl]
 have hw : aR a = b7 a.obj:=rfl
 have ht:=b8 n (aR a)
 have c1:=Ki  a.obj n hb.FO (by omega) (by omega)
 have s1:=b8 n (b7 a.obj)
 obtain ⟨m1,e1⟩ : ∃ m,m = aJ n (b7 a.obj):=⟨_,rfl⟩
 rw [← e1] at c1 s1
 try simp at c1
 by_cases h1 : m1 < 0
 ·have ef : aJ n (aR a) = -1:=by omega
  simp -implicitDefEqProofs [sF,c1,h1,ef]
 have ef : aJ n (aR a) = m1:=by omega
 simp -implicitDefEqProofs [sF,c1,h1,ef]
 all_goals (repeat' split) <;> first | rfl | omega | (simp_all; done) | (simp_all; omega) | skip
theorem Ks (a : Kp) (hb : aR a≤1048576) : ev LI TT 166 [.agg ((aB .af) a)] = some (.agg ((aB .own) a),[.dead]):=by
 rw [az (b:=wU) (rs:=[.c 2 9 true 108]) (n:=1) rfl rfl]
 have hw : aR a = b7 a.obj:=rfl
 have h1:=Ku  a.obj (by omega)
 try simp at h1
 simp -implicitDefEqProofs [wU,h1,hw]
 all_goals (repeat' split) <;> first | rfl | omega | (simp_all; done) | (simp_all; omega) | skip
theorem JV (a b : Kp) (hb : aR a≤1073741824) : ev LI TT 169 [.agg ((aB .af) a),.agg ((aB .af) b)] = some (.bool (decide (a = b)),[.dead,.dead]):=by
 rw [az (b:=nv) (rs:=[.t 4]) (n:=2) rfl rfl]
 have hw : aR a = b7 a.obj:=rfl
 rw [Lu]
 have c1:=JX  a.obj b.obj (by omega)
 cases g1 : decide (a.obj = b.obj)
 ·rw [g1] at c1
  try simp at c1
  simp -implicitDefEqProofs [nv,c1]
 rw [g1] at c1
 try simp at c1
 by_cases g2 : a.at_ = b.at_
 rotate_left
 ·simp -implicitDefEqProofs [nv,c1,eq_false g2]
 by_cases g3 : a.seq = b.seq
 rotate_left
 ·simp -implicitDefEqProofs [nv,c1,eq_true g2,eq_false g3]
 simp -implicitDefEqProofs [nv,c1,eq_true g2,eq_true g3]
 all_goals (repeat' split) <;> first | rfl | omega | (simp_all; done) | (simp_all; omega) | skip
theorem Ih (l : List Kp) (hlen : l.length≤9223372036854775807) (hb : bL n6 l) (n : Int) (hn : 0≤n) (hm : n≤9223372036854775807) : aK (ai (ev LI TT) (ak TT) sE) [(0,.row .af 9 (l.map (aB .af))),(1,.int .i64 n),(5,.int .i64 0)] = if dM (fun b n=>aJ n (aR b)) (l) n < 0 then some (.ret,[(4,.int .i64 (-1))]) else some (.exit 0,[(0,.row .af 9 (l.map (aB .af))),(1,.int .i64 (dM (fun b n=>aJ n (aR b)) (l) n)),(5,.int .i64 (l).length),(15,.bool false)]):=by
 refine sQ (f:=ai (ev LI TT) (ak TT) sE) (l) (fun i n=>[(0,.row .af 9 (l.map (aB .af))),(1,.int .i64 n),(5,.int .i64 i)]) (fun b n=>aJ n (aR b)) _ (fun n=>[(0,.row .af 9 (l.map (aB .af))),(1,.int .i64 n),(5,.int .i64 (l).length),(15,.bool false)]) n hn hm (fun b n=>tY _ n) (fun i b n hi hl hn hm=>?_) (fun n=>?_)
 ·have hw:=aT i (by first | omega | (simp at hl; omega))
  obtain ⟨_,rfl⟩:=List.getElem?_eq_some_iff.1 hi
  have h2:=Kg  l[i] n (hb.2 _ (List.getElem_mem hl)) hn hm
  obtain ⟨m,e1⟩ : ∃ m,m = aJ n (aR l[i]):=⟨_,rfl⟩
  rw [← e1] at h2 ⊢
  try simp at h2
  simp -implicitDefEqProofs [sE,Bq,hl,hw,h2]
 ·simp -implicitDefEqProofs [sE,Bq]
theorem Kh (l : List Kp) (n : Int) (hb : bL n6 l) (hn : 0≤n) (hm : n≤9223372036854775807) : ev LI TT 67 [.row .af 9 (l.map (aB .af)),.int .i64 n] = some (.int .i64 (aJ n (wL aR l)),[.dead,.dead]):=by
 rw [az (b:=oV) (rs:=[.t 4]) (n:=2) rfl rfl]
 have hl:=hb.1
 have hw : wL aR l = l.length + (l.map aR).sum:=rfl
 have ht:=b8 n (wL aR l)
 obtain ⟨m,e1⟩ : ∃ m,m = n - (l.length : Int):=⟨_,rfl⟩
 have h2 : IntKind.i64.wrap (n - (l.length : Int)) = m:=by rw [e1]; exact aO (by omega) (by omega)
 by_cases h : m < 0
 ·have ef : aJ n (wL aR l) = -1:=by omega
  simp -implicitDefEqProofs [oV,h2,h,ef]
 have h3:=Ih  l hb.1 hb m (by omega) (by omega)
 rw [pV _ _ _ (by omega)] at h3
 have hs:=b8 m (l.map aR).sum
 obtain ⟨q,e2⟩ : ∃ q,q = aJ m (l.map aR).sum:=⟨_,rfl⟩
 rw [← e2] at h3 hs
 try simp at h3
 by_cases h4 : q < 0
 ·have ef : aJ n (wL aR l) = -1:=by omega
  simp only [h4,if_true] at h3
  simp -implicitDefEqProofs [oV,h2,h,h3,ef]
 have ef : aJ n (wL aR l) = q:=by omega
 simp only [h4,if_false] at h3
 simp -implicitDefEqProofs [oV,h2,h,h3,ef]
 all_goals (repeat' split) <;> first | rfl | omega | (simp_all; done) | (simp_all; omega) | skip
theorem Im (l : List Kp) (hlen : l.length≤1048576) (hb : wL aR l≤1048576) : aK (ai (ev LI TT) (ak TT) sK) [(0,.row .af 9 (l.map (aB .af))),(3,.row .own 9 (cX (l.map (aB .own)) 0 [.str ⟨#[]⟩,.row .own 1 [],.row .own 1 [],.int .i64 0,.row .own 2 [],.str ⟨#[]⟩,.int .i64 0,.int .i64 0,.int .i64 0])),(4,.int .i64 0),(6,.int .i64 l.length)] = some (.exit 0,[(0,.row .af 9 (l.map (aB .af))),(3,.row .own 9 (l.map (aB .own))),(4,.int .i64 (l).length),(6,.int .i64 l.length),(11,.bool false)]):=by
 refine eP (f:=ai (ev LI TT) (ak TT) sK) (l) (fun i=>[(0,.row .af 9 (l.map (aB .af))),(3,.row .own 9 (cX (l.map (aB .own)) i [.str ⟨#[]⟩,.row .own 1 [],.row .own 1 [],.int .i64 0,.row .own 2 [],.str ⟨#[]⟩,.int .i64 0,.int .i64 0,.int .i64 0])),(4,.int .i64 i),(6,.int .i64 l.length)]) _ (fun i b hi hl=>?_) ?_
 ·have hw:=aT i (by first | omega | (simp at hl; omega))
  obtain ⟨_,rfl⟩:=List.getElem?_eq_some_iff.1 hi
  have h:=Ks  l[i] (Nat.le_trans (gD (List.getElem_mem hl)) hb)
  try simp at h
  simp -implicitDefEqProofs [sK,Bv,hl,hw,h]
  first | done | (rw [jr _ _ _ _ (by simpa using hl) (by simp)]; done) | (simp only [jF]; rw [jr _ _ _ _ (by simpa using hl) (by simp)])
 ·simp -implicitDefEqProofs [sK,Bv]
theorem Kt (l : List Kp) (hb : wL aR l≤1048576) : ev LI TT 73 [.row .af 9 (l.map (aB .af))] = some (.row .own 9 (l.map (aB .own)),[.dead]):=by
 rw [az (b:=wT) (rs:=[.t 2]) (n:=1) rfl rfl]
 have hlen:=br (w:=aR) l
 have h:=Im  l (by omega) hb
 try simp at h
 simp -implicitDefEqProofs [wT,h,(by omega : (l.length : Int) * 136≤140737488355328)]
 all_goals (repeat' split) <;> first | rfl | omega | (simp_all; done) | (simp_all; omega) | skip
theorem HT (ps : List (Kp×Kp)) (hb : ps.length≤9223372036854775807) (fu : ∀ x∈ps,aR x.1≤1073741824) : aK (ai (ev LI TT) (ak TT) r7) [(0,.row .af 9 (ps.map (fun x : Kp×Kp=>(aB .af) x.1))),(1,.row .af 9 (ps.map (fun x : Kp×Kp=>(aB .af) x.2))),(5,.int .i64 0)] = if aS cL (ps) = true then some (.exit 0,[(0,.row .af 9 (ps.map (fun x : Kp×Kp=>(aB .af) x.1))),(1,.row .af 9 (ps.map (fun x : Kp×Kp=>(aB .af) x.2))),(5,.int .i64 ps.length),(14,.bool false)]) else some (.ret,[(4,.bool false)]):=by
 refine cN (f:=ai (ev LI TT) (ak TT) r7) (ps) (fun i=>[(0,.row .af 9 (ps.map (fun x : Kp×Kp=>(aB .af) x.1))),(1,.row .af 9 (ps.map (fun x : Kp×Kp=>(aB .af) x.2))),(5,.int .i64 i)]) cL _ _ (fun i b hi hl=>?_) ?_
 ·have hw:=aT i (by first | omega | (simp at hl; omega))
  obtain ⟨_,rfl⟩:=List.getElem?_eq_some_iff.1 hi
  have h:=JV  (ps[i]).1 (ps[i]).2 (fu _ (List.getElem_mem hl)); try simp at h
  simp -implicitDefEqProofs [r7,A9,hl,hw,cL,h]
 ·simp -implicitDefEqProofs [r7,A9]
theorem JW (a b : List Kp) (hb : wL aR a≤1073741824) : ev LI TT 79 [.row .af 9 (a.map (aB .af)),.row .af 9 (b.map (aB .af))] = some (.bool (decide (a = b)),[.dead,.dead]):=by
 rw [az (b:=wk) (rs:=[.t 4]) (n:=2) rfl rfl]
 simp -implicitDefEqProofs [wk]
 have hlen:=br (w:=aR) a
 by_cases h : a.length = b.length
 ·obtain ⟨ps,rfl,rfl⟩:=nW h
  have h1:=HT  ps (by simp at hlen; omega) (fun x hx=>Nat.le_trans (gD (List.mem_map_of_mem hx)) hb)
  have h2:=mA ps
  simp at h1
  rw [← h2]
  cases h3 : aS cL ps <;> rw [h3] at h1 <;> simp [h1,Function.comp_def]
 ·have : ¬ a = b:=fun e=>h (by rw [e])
  simp [this]
  omega
theorem DB (a : Bn) (n : Int) (hb : jZ a) (hn : 0≤n) (hm : n≤9223372036854775807) : ev LI TT 33 [.agg (aM a),.int .i64 n] = some (.int .i64 (aJ n (aH a)),[.dead,.dead]):=by
 rw [az (b:=oR) (rs:=[.t 4]) (n:=2) rfl rfl]
 have hw : aH a = a.a.length + a.b.length:=rfl
 have ht:=b8 n (aH a)
 have oA : a.a.length≤9223372036854775807:=hb.FJ
 obtain ⟨m1,e1⟩ : ∃ m,m = n - (a.a.length : Int):=⟨_,rfl⟩
 have c1 : IntKind.i64.wrap (n - (a.a.length : Int)) = m1:=by rw [e1]; exact aO (by omega) (by omega)
 by_cases h1 : m1 < 0
 ·have ef : aJ n (aH a) = -1:=by omega
  simp -implicitDefEqProofs [oR,c1,h1,ef]
 have lK : a.b.length≤9223372036854775807:=hb.PI
 obtain ⟨m2,e2⟩ : ∃ m,m = m1 - (a.b.length : Int):=⟨_,rfl⟩
 have c2 : IntKind.i64.wrap (m1 - (a.b.length : Int)) = m2:=by rw [e2]; exact aO (by omega) (by omega)
 by_cases h2 : m2 < 0
 ·have ef : aJ n (aH a) = -1:=by omega
  simp -implicitDefEqProofs [oR,c1,h1,c2,h2,ef]
 have ef : aJ n (aH a) = m2:=by omega
 simp -implicitDefEqProofs [oR,c1,h1,c2,h2,ef]
 all_goals (repeat' split) <;> first | rfl | omega | (simp_all; done) | (simp_all; omega) | skip
theorem DC (a : Bn) (hb : aH a≤1048576) : ev LI TT 35 [.agg (aM a)] = some (.agg (aM a),[.dead]):=by
 rw [az (b:=wO) (rs:=[.c 2 4 true 83]) (n:=1) rfl rfl]
 have hw : aH a = a.a.length + a.b.length:=rfl
 simp -implicitDefEqProofs [wO,hw]
 all_goals (repeat' split) <;> first | rfl | omega | (simp_all; done) | (simp_all; omega) | skip
theorem Dy (a b : Bn) (hb : aH a≤1073741824) : ev LI TT 170 [.agg (aM a),.agg (aM b)] = some (.bool (decide (a = b)),[.dead,.dead]):=by
 rw [az (b:=lW) (rs:=[.t 4]) (n:=2) rfl rfl]
 have hw : aH a = a.a.length + a.b.length:=rfl
 rw [Lr]
 by_cases g1 : a.kind = b.kind
 rotate_left
 ·simp -implicitDefEqProofs [lW,eq_false g1]
 by_cases g2 : a.a = b.a
 rotate_left
 ·simp -implicitDefEqProofs [lW,eq_true g1,eq_false g2]
 by_cases g3 : a.b = b.b
 rotate_left
 ·simp -implicitDefEqProofs [lW,eq_true g1,eq_true g2,eq_false g3]
 by_cases g4 : a.t = b.t
 rotate_left
 ·simp -implicitDefEqProofs [lW,eq_true g1,eq_true g2,eq_true g3,eq_false g4]
 simp -implicitDefEqProofs [lW,eq_true g1,eq_true g2,eq_true g3,eq_true g4]
 all_goals (repeat' split) <;> first | rfl | omega | (simp_all; done) | (simp_all; omega) | skip
theorem Ie (l : List Bn) (hlen : l.length≤9223372036854775807) (hb : bL jZ l) (n : Int) (hn : 0≤n) (hm : n≤9223372036854775807) : aK (ai (ev LI TT) (ak TT) sC) [(0,.row .af 4 (l.map (aM))),(1,.int .i64 n),(5,.int .i64 0)] = if dM (fun b n=>aJ n (aH b)) (l) n < 0 then some (.ret,[(4,.int .i64 (-1))]) else some (.exit 0,[(0,.row .af 4 (l.map (aM))),(1,.int .i64 (dM (fun b n=>aJ n (aH b)) (l) n)),(5,.int .i64 (l).length),(15,.bool false)]):=by
 refine sQ (f:=ai (ev LI TT) (ak TT) sC) (l) (fun i n=>[(0,.row .af 4 (l.map (aM))),(1,.int .i64 n),(5,.int .i64 i)]) (fun b n=>aJ n (aH b)) _ (fun n=>[(0,.row .af 4 (l.map (aM))),(1,.int .i64 n),(5,.int .i64 (l).length),(15,.bool false)]) n hn hm (fun b n=>tY _ n) (fun i b n hi hl hn hm=>?_) (fun n=>?_)
 ·have hw:=aT i (by first | omega | (simp at hl; omega))
  obtain ⟨_,rfl⟩:=List.getElem?_eq_some_iff.1 hi
  have h2:=DB  l[i] n (hb.2 _ (List.getElem_mem hl)) hn hm
  obtain ⟨m,e1⟩ : ∃ m,m = aJ n (aH l[i]):=⟨_,rfl⟩
  rw [← e1] at h2 ⊢
  try simp at h2
  simp -implicitDefEqProofs [sC,Bo,hl,hw,h2]
 ·simp -implicitDefEqProofs [sC,Bo]
theorem Kc (l : List Bn) (n : Int) (hb : bL jZ l) (hn : 0≤n) (hm : n≤9223372036854775807) : ev LI TT 68 [.row .af 4 (l.map (aM)),.int .i64 n] = some (.int .i64 (aJ n (wL aH l)),[.dead,.dead]):=by
 rw [az (b:=oQ) (rs:=[.t 4]) (n:=2) rfl rfl]
 have hl:=hb.1
 have hw : wL aH l = l.length + (l.map aH).sum:=rfl
 have ht:=b8 n (wL aH l)
 obtain ⟨m,e1⟩ : ∃ m,m = n - (l.length : Int):=⟨_,rfl⟩
 have h2 : IntKind.i64.wrap (n - (l.length : Int)) = m:=by rw [e1]; exact aO (by omega) (by omega)
 by_cases h : m < 0
 ·have ef : aJ n (wL aH l) = -1:=by omega
  simp -implicitDefEqProofs [oQ,h2,h,ef]
 have h3:=Ie  l hb.1 hb m (by omega) (by omega)
 rw [pV _ _ _ (by omega)] at h3
 have hs:=b8 m (l.map aH).sum
 obtain ⟨q,e2⟩ : ∃ q,q = aJ m (l.map aH).sum:=⟨_,rfl⟩
 rw [← e2] at h3 hs
 try simp at h3
 by_cases h4 : q < 0
 ·have ef : aJ n (wL aH l) = -1:=by omega
  simp only [h4,if_true] at h3
  simp -implicitDefEqProofs [oQ,h2,h,h3,ef]
 have ef : aJ n (wL aH l) = q:=by omega
 simp only [h4,if_false] at h3
 simp -implicitDefEqProofs [oQ,h2,h,h3,ef]
 all_goals (repeat' split) <;> first | rfl | omega | (simp_all; done) | (simp_all; omega) | skip
theorem Ik (l : List Bn) (hlen : l.length≤1048576) (hb : wL aH l≤1048576) : aK (ai (ev LI TT) (ak TT) sI) [(0,.row .af 4 (l.map aM)),(3,.row .own 4 (cX (l.map aM) 0 [.int .i64 0,.str ⟨#[]⟩,.str ⟨#[]⟩,.int .i64 0])),(4,.int .i64 0),(6,.int .i64 l.length)] = some (.exit 0,[(0,.row .af 4 (l.map aM)),(3,.row .own 4 (l.map aM)),(4,.int .i64 (l).length),(6,.int .i64 l.length),(11,.bool false)]):=by
 refine eP (f:=ai (ev LI TT) (ak TT) sI) (l) (fun i=>[(0,.row .af 4 (l.map aM)),(3,.row .own 4 (cX (l.map aM) i [.int .i64 0,.str ⟨#[]⟩,.str ⟨#[]⟩,.int .i64 0])),(4,.int .i64 i),(6,.int .i64 l.length)]) _ (fun i b hi hl=>?_) ?_
 ·have hw:=aT i (by first | omega | (simp at hl; omega))
  obtain ⟨_,rfl⟩:=List.getElem?_eq_some_iff.1 hi
  have h:=DC  l[i] (Nat.le_trans (gD (List.getElem_mem hl)) hb)
  try simp at h
  simp -implicitDefEqProofs [sI,Bt,hl,hw,h]
  first | done | (rw [jr _ _ _ _ (by simpa using hl) (by simp)]; done) | (simp only [jF]; rw [jr _ _ _ _ (by simpa using hl) (by simp)])
 ·simp -implicitDefEqProofs [sI,Bt]
theorem Kn (l : List Bn) (hb : wL aH l≤1048576) : ev LI TT 74 [.row .af 4 (l.map aM)] = some (.row .own 4 (l.map aM),[.dead]):=by
 rw [az (b:=wN) (rs:=[.t 2]) (n:=1) rfl rfl]
 have hlen:=br (w:=aH) l
 have h:=Ik  l (by omega) hb
 try simp at h
 simp -implicitDefEqProofs [wN,h,(by omega : (l.length : Int) * 48≤140737488355328)]
 all_goals (repeat' split) <;> first | rfl | omega | (simp_all; done) | (simp_all; omega) | skip
theorem HR (ps : List (Bn×Bn)) (hb : ps.length≤9223372036854775807) (fu : ∀ x∈ps,aH x.1≤1073741824) : aK (ai (ev LI TT) (ak TT) rY) [(0,.row .af 4 (ps.map (fun x : Bn×Bn=>aM x.1))),(1,.row .af 4 (ps.map (fun x : Bn×Bn=>aM x.2))),(5,.int .i64 0)] = if aS cL (ps) = true then some (.exit 0,[(0,.row .af 4 (ps.map (fun x : Bn×Bn=>aM x.1))),(1,.row .af 4 (ps.map (fun x : Bn×Bn=>aM x.2))),(5,.int .i64 ps.length),(14,.bool false)]) else some (.ret,[(4,.bool false)]):=by
 refine cN (f:=ai (ev LI TT) (ak TT) rY) (ps) (fun i=>[(0,.row .af 4 (ps.map (fun x : Bn×Bn=>aM x.1))),(1,.row .af 4 (ps.map (fun x : Bn×Bn=>aM x.2))),(5,.int .i64 i)]) cL _ _ (fun i b hi hl=>?_) ?_
 ·have hw:=aT i (by first | omega | (simp at hl; omega))
  obtain ⟨_,rfl⟩:=List.getElem?_eq_some_iff.1 hi
  have h:=Dy  (ps[i]).1 (ps[i]).2 (fu _ (List.getElem_mem hl)); try simp at h
  simp -implicitDefEqProofs [rY,A7,hl,hw,cL,h]
 ·simp -implicitDefEqProofs [rY,A7]
theorem JR (a b : List Bn) (hb : wL aH a≤1073741824) : ev LI TT 80 [.row .af 4 (a.map aM),.row .af 4 (b.map aM)] = some (.bool (decide (a = b)),[.dead,.dead]):=by
 rw [az (b:=wh) (rs:=[.t 4]) (n:=2) rfl rfl]
 simp -implicitDefEqProofs [wh]
 have hlen:=br (w:=aH) a
 by_cases h : a.length = b.length
 ·obtain ⟨ps,rfl,rfl⟩:=nW h
  have h1:=HR  ps (by simp at hlen; omega) (fun x hx=>Nat.le_trans (gD (List.mem_map_of_mem hx)) hb)
  have h2:=mA ps
  simp at h1
  rw [← h2]
  cases h3 : aS cL ps <;> rw [h3] at h1 <;> simp [h1,Function.comp_def]
 ·have : ¬ a = b:=fun e=>h (by rw [e])
  simp [this]
  omega
theorem Kk (a : Sh) (n : Int) (hb : qo a) (hn : 0≤n) (hm : n≤9223372036854775807) : ev LI TT 18 [.agg ((aY .af) a),.int .i64 n] = some (.int .i64 (aJ n (bA a)),[.dead,.dead]):=by
 rw [az (b:=nx) (rs:=[.t 4]) (n:=2) rfl rfl]
 have hw : bA a = bJ a.aG + wL aR a.ay + wL aH a.aD:=rfl
 have ht:=b8 n (bA a)
 have c1:=Kd  a.aG n hb.PL (by omega) (by omega)
 have s1:=b8 n (bJ a.aG)
 obtain ⟨m1,e1⟩ : ∃ m,m = aJ n (bJ a.aG):=⟨_,rfl⟩
 rw [← e1] at c1 s1
 try simp at c1
 by_cases h1 : m1 < 0
 ·have ef : aJ n (bA a) = -1:=by omega
  simp -implicitDefEqProofs [nx,c1,h1,ef]
 have c2:=Kh  a.ay m1 hb.PR (by omega) (by omega)
 have s2:=b8 m1 (wL aR a.ay)
 obtain ⟨m2,e2⟩ : ∃ m,m = aJ m1 (wL aR a.ay):=⟨_,rfl⟩
 rw [← e2] at c2 s2
 try simp at c2
 by_cases h2 : m2 < 0
 ·have ef : aJ n (bA a) = -1:=by omega
  simp -implicitDefEqProofs [nx,c1,h1,c2,h2,ef]
 have c3:=Kc  a.aD m2 hb.FK (by omega) (by omega)
 have s3:=b8 m2 (wL aH a.aD)
 obtain ⟨m3,e3⟩ : ∃ m,m = aJ m2 (wL aH a.aD):=⟨_,rfl⟩
 rw [← e3] at c3 s3
 try simp at c3
 by_cases h3 : m3 < 0
 ·have ef : aJ n (bA a) = -1:=by omega
  simp -implicitDefEqProofs [nx,c1,h1,c2,h2,c3,h3,ef]
 have ef : aJ n (bA a) = m3:=by omega
 simp -implicitDefEqProofs [nx,c1,h1,c2,h2,c3,h3,ef]
 all_goals (repeat' split) <;> first | rfl | omega | (simp_all; done) | (simp_all; omega) | skip
theorem Kw (a : Sh) (hb : bA a≤1048576) : ev LI TT 21 [.agg ((aY .af) a)] = some (.agg ((aY .own) a),[.dead]):=by
 rw [az (b:=wX) (rs:=[.c 2 6 true 43]) (n:=1) rfl rfl]
 have hw : bA a = bJ a.aG + wL aR a.ay + wL aH a.aD:=rfl
 have h1:=Ko  a.aG (by omega)
 try simp at h1
 have h2:=Kt  a.ay (by omega)
 try simp at h2
 have h3:=Kn  a.aD (by omega)
 try simp at h3
 simp -implicitDefEqProofs [wX,h1,h2,h3,hw]
 all_goals (repeat' split) <;> first | rfl | omega | (simp_all; done) | (simp_all; omega) | skip
theorem Dz (a b : Sh) (hb : bA a≤1073741824) : ev LI TT 25 [.agg ((aY .af) a),.agg ((aY .af) b)] = some (.bool (decide (a = b)),[.dead,.dead]):=by
 rw [az (b:=kE) (rs:=[.t 4]) (n:=2) rfl rfl]
 have hw : bA a = bJ a.aG + wL aR a.ay + wL aH a.aD:=rfl
 rw [Lx]
 have c1:=JS  a.aG b.aG (by omega)
 cases g1 : decide (a.aG = b.aG)
 ·rw [g1] at c1
  try simp at c1
  simp -implicitDefEqProofs [kE,c1]
 rw [g1] at c1
 try simp at c1
 have c2:=JW  a.ay b.ay (by omega)
 cases g2 : decide (a.ay = b.ay)
 ·rw [g2] at c2
  try simp at c2
  simp -implicitDefEqProofs [kE,c1,c2]
 rw [g2] at c2
 try simp at c2
 have c3:=JR  a.aD b.aD (by omega)
 cases g3 : decide (a.aD = b.aD)
 ·rw [g3] at c3
  try simp at c3
  simp -implicitDefEqProofs [kE,c1,c2,c3]
 rw [g3] at c3
 try simp at c3
 by_cases g4 : a.next = b.next
 rotate_left
 ·simp -implicitDefEqProofs [kE,c1,c2,c3,eq_false g4]
 by_cases g5 : a.seq = b.seq
 rotate_left
 ·simp -implicitDefEqProofs [kE,c1,c2,c3,eq_true g4,eq_false g5]
 simp -implicitDefEqProofs [kE,c1,c2,c3,eq_true g4,eq_true g5]
 all_goals (repeat' split) <;> first | rfl | omega | (simp_all; done) | (simp_all; omega) | skip
end M
set_option maxHeartbeats 4000000
namespace M
open Go
theorem Ib (n : Nat) (out : ah) (hn : out.length + n≤9223372036854775807) : aK (ai (ev LI TT) (ak TT) Bl) [(0,.int .i64 n),(3,.str ⟨out.toArray⟩)] = some (.exit 0,[(0,.int .i64 0),(3,.str ⟨(gA n out).toArray⟩),(7,.bool false)]):=by
 have hs : ∀ s,ai (ev LI TT) (ak TT) Bl s = ai (ev LI TT) (ak TT) wJ s:=fun _=>rfl
 induction n using Nat.strongRecOn generalizing out with
 | ind n ih =>
  rw [gP,hs]
  unfold gA
  by_cases h : n = 0
  ·subst h
   simp -implicitDefEqProofs [wJ]
  ·have hp : 0 < n:=by omega
   have:=ih (n / 10) (by omega) (UInt8.ofNat (48 + n % 10) :: out) (by rw [List.length_cons]; omega)
   have e1 : ((n : Int)).tmod 10 = ((n % 10 : Nat) : Int):=by rw [Int.tmod_eq_emod_of_nonneg (by omega)]; omega
   have e4 : ((n : Int)).tdiv 10 = ((n / 10 : Nat) : Int):=by rw [Int.tdiv_eq_ediv_of_nonneg (by omega)]; omega
   have e2 : IntKind.i64.wrap (48 + ((n % 10 : Nat) : Int)) = ((48 + n % 10 : Nat) : Int):=by rw [aO (by omega) (by omega)]; omega
   have e3 : IntKind.u8.wrap ((48 + n % 10 : Nat) : Int) = ((48 + n % 10 : Nat) : Int):=yC (by omega) (by omega)
   have e5:=CY (48 + n % 10) (by omega)
   have e6 : IntKind.i64.wrap ((n / 10 : Nat) : Int) = ((n / 10 : Nat) : Int):=aO (by omega) (by omega)
   simp only [h,dite_false]
   rw [← this]
   simp -implicitDefEqProofs [wJ,hp,nA,e1,e2,e3,e4,e5,e6,-Int.natCast_emod,-Int.natCast_ediv,-Int.natCast_add,-UInt8.ofNat_add,iI,(by omega : 1 + out.length≤9223372036854775807)]
theorem Qc : ∀ (n : Nat) (out : ah),(gA n out).length≤out.length + n:=by
 intro n
 induction n using Nat.strongRecOn with
 | ind n ih =>
  intro out
  unfold gA
  by_cases h : n = 0
  ·simp [h]
  ·simp only [h,dite_false]
   have:=ih (n / 10) (by omega) (UInt8.ofNat (48 + n % 10) :: out)
   rw [List.length_cons] at this
   omega
theorem fj (k : Int) (hk : k≤9223372036854775800) : ev LI TT 172 [.int .i64 k] = some (.str ⟨(nC k).toArray⟩,[.dead]):=by
 rw [az (b:=sA) (rs:=[.t 2]) (n:=1) rfl rfl]
 unfold nC
 by_cases h : k≤0
 ·simp -implicitDefEqProofs [sA,h]
 obtain ⟨n,rfl⟩ : ∃ n : Nat,k = n:=⟨k.toNat,by omega⟩
 have h1:=Ib  n [] (by simp; omega)
 have h2:=Qc n []
 simp at h2
 simp -implicitDefEqProofs [sA,h,h1,iI,(by omega : 1 + (gA n []).length≤9223372036854775807)]
 have h3 : ¬ n = 0:=by omega
 simp [h3]
theorem H8 (l : List aP) (k : Int) (hk : 0≤k) (hn : k + (nL aE l : Nat)≤1000000000000000) : aK (ai (ev LI TT) (ak TT) sw) [(0,.ref 100000 []),(1,.int .i64 (k + ((nL aE (l.take 0) : Nat) : Int))),(5,.int .i64 0),(100000,.row .own 2 (cW ((aQ dr aE l k).map aL) (l.map aL) 0))] = some (.exit 0,[(0,.ref 100000 []),(1,.int .i64 (k + ((nL aE l : Nat) : Int))),(5,.int .i64 l.length),(9,.bool false),(100000,.row .own 2 ((aQ dr aE l k).map aL))]):=by
 refine eP (f:=ai (ev LI TT) (ak TT) sw) (l) (fun i=>[(0,.ref 100000 []),(1,.int .i64 (k + ((nL aE (l.take i) : Nat) : Int))),(5,.int .i64 i),(100000,.row .own 2 (cW ((aQ dr aE l k).map aL) (l.map aL) i))]) _ (fun i b hi hl=>?_) ?_
 ·have hw:=aT i (by have:=jG aE D8 l; omega)
  obtain ⟨_,rfl⟩:=List.getElem?_eq_some_iff.1 hi
  have hnt:=jH aE l i hl
  have hns:=jd aE l i hl
  have hg:=jc dr aE l k i hl (by simpa using hl)
  obtain ⟨k0,hk0⟩ : ∃ k0,k + ((nL aE (l.take i) : Nat) : Int) = k0:=⟨_,rfl⟩
  rw [hk0] at hg
  have hce : aE l[i] = 2:=rfl
  have m0:=fj k0 (by omega)
  obtain ⟨k1,hk1⟩ : ∃ x,k0 + 1 = x:=⟨_,rfl⟩
  have e0 : IntKind.i64.wrap (k0 + 1) = k1:=by rw [← hk1]; exact aO (by omega) (by omega)
  have m1:=fj k1 (by omega)
  obtain ⟨k2,hk2⟩ : ∃ x,k1 + 1 = x:=⟨_,rfl⟩
  have e1 : IntKind.i64.wrap (k1 + 1) = k2:=by rw [← hk2]; exact aO (by omega) (by omega)
  simp -implicitDefEqProofs [sw,Bi,hl,hw,hk0,m0,e0,m1,e1]
  refine ⟨?_,?_⟩
  ·omega
  ·(try simp only [jF])
   refine qH _ _ _ _ (by simp) (by simpa using hl) ?_
   simp [hg,dr,cw,bE,iC,hk1,hk2]
 ·rw [List.take_length]
  simp -implicitDefEqProofs [sw,Bi]
theorem J9 (l : List aP) (k : Int) (hk : 0≤k) (hn : k + (nL aE l : Nat)≤1000000000000000) : ev LI TT 84 [.row .own 2 (l.map aL),.int .i64 k] = some (.int .i64 (k + ((nL aE l : Nat) : Int)),[.row .own 2 ((aQ dr aE l k).map aL),.dead]):=by
 rw [az (b:=wF) (rs:=[.t 4]) (n:=2) rfl rfl]
 have u1:=H8 l k hk hn
 simp [nL] at u1
 simp -implicitDefEqProofs [wF,u1,nL]
 all_goals (repeat' split) <;> first | rfl | omega | (simp_all; done) | (simp_all; omega) | skip
theorem HX (l : List aP) (k : Int) (hk : 0≤k) (hn : k + (nL aE l : Nat)≤1000000000000000) : aK (ai (ev LI TT) (ak TT) si) [(0,.row .af 2 ((aQ dr aE l k).map aL)),(1,.int .i64 (k + ((nL aE (l.take 0) : Nat) : Int))),(5,.int .i64 0)] = some (.exit 0,[(0,.row .af 2 ((aQ dr aE l k).map aL)),(1,.int .i64 (k + ((nL aE l : Nat) : Int))),(5,.int .i64 l.length),(9,.bool false)]):=by
 refine eP (f:=ai (ev LI TT) (ak TT) si) (l) (fun i=>[(0,.row .af 2 ((aQ dr aE l k).map aL)),(1,.int .i64 (k + ((nL aE (l.take i) : Nat) : Int))),(5,.int .i64 i)]) _ (fun i b hi hl=>?_) ?_
 ·have hw:=aT i (by have:=jG aE D8 l; omega)
  obtain ⟨_,rfl⟩:=List.getElem?_eq_some_iff.1 hi
  have hnt:=jH aE l i hl
  have hns:=jd aE l i hl
  have hg:=jc dr aE l k i hl (by simpa using hl)
  obtain ⟨k0,hk0⟩ : ∃ k0,k + ((nL aE (l.take i) : Nat) : Int) = k0:=⟨_,rfl⟩
  rw [hk0] at hg
  have hce : aE l[i] = 2:=rfl
  have m0:=fj k0 (by omega)
  obtain ⟨k1,hk1⟩ : ∃ x,k0 + 1 = x:=⟨_,rfl⟩
  have e0 : IntKind.i64.wrap (k0 + 1) = k1:=by rw [← hk1]; exact aO (by omega) (by omega)
  have f0 : IntKind.i64.wrap k1 = k1:=aO (by omega) (by omega)
  have m1:=fj k1 (by omega)
  obtain ⟨k2,hk2⟩ : ∃ x,k1 + 1 = x:=⟨_,rfl⟩
  have e1 : IntKind.i64.wrap (k1 + 1) = k2:=by rw [← hk2]; exact aO (by omega) (by omega)
  have f1 : IntKind.i64.wrap k2 = k2:=aO (by omega) (by omega)
  simp -implicitDefEqProofs [si,Bd,hl,hw,hk0,hg,dr,cw,bE,iC,hk1,hk2,m0,e0,f0,m1,e1,f1]
  omega
 ·rw [List.take_length]
  simp -implicitDefEqProofs [si,Bd]
theorem J3 (l : List aP) (k : Int) (hk : 0≤k) (hn : k + (nL aE l : Nat)≤1000000000000000) : ev LI TT 173 [.row .af 2 ((aQ dr aE l k).map aL),.int .i64 k] = some (.int .i64 (k + ((nL aE l : Nat) : Int)),[.dead,.dead]):=by
 rw [az (b:=wv) (rs:=[.t 4]) (n:=2) rfl rfl]
 have u1:=HX l k hk hn
 simp [nL] at u1
 simp -implicitDefEqProofs [wv,u1,nL]
 all_goals (repeat' split) <;> first | rfl | omega | (simp_all; done) | (simp_all; omega) | skip
theorem Ia (l : List ah) (k : Int) (hk : 0≤k) (hn : k + (nL aC l : Nat)≤1000000000000000) : aK (ai (ev LI TT) (ak TT) sy) [(0,.ref 100000 []),(1,.int .i64 (k + ((nL aC (l.take 0) : Nat) : Int))),(5,.int .i64 0),(100000,.row .own 1 (cW ((aQ bE aC l k).map eS) (l.map eS) 0))] = some (.exit 0,[(0,.ref 100000 []),(1,.int .i64 (k + ((nL aC l : Nat) : Int))),(5,.int .i64 l.length),(9,.bool false),(100000,.row .own 1 ((aQ bE aC l k).map eS))]):=by
 refine eP (f:=ai (ev LI TT) (ak TT) sy) (l) (fun i=>[(0,.ref 100000 []),(1,.int .i64 (k + ((nL aC (l.take i) : Nat) : Int))),(5,.int .i64 i),(100000,.row .own 1 (cW ((aQ bE aC l k).map eS) (l.map eS) i))]) _ (fun i b hi hl=>?_) ?_
 ·have hw:=aT i (by have:=jG aC (fun _=>Nat.le_refl 1) l; omega)
  obtain ⟨_,rfl⟩:=List.getElem?_eq_some_iff.1 hi
  have hnt:=jH aC l i hl
  have hns:=jd aC l i hl
  have hg:=jc bE aC l k i hl (by simpa using hl)
  obtain ⟨k0,hk0⟩ : ∃ k0,k + ((nL aC (l.take i) : Nat) : Int) = k0:=⟨_,rfl⟩
  rw [hk0] at hg
  have hce : aC l[i] = 1:=rfl
  have m0:=fj k0 (by omega)
  obtain ⟨k1,hk1⟩ : ∃ x,k0 + 1 = x:=⟨_,rfl⟩
  have e0 : IntKind.i64.wrap (k0 + 1) = k1:=by rw [← hk1]; exact aO (by omega) (by omega)
  simp -implicitDefEqProofs [sy,Bk,hl,hw,hk0,m0,e0]
  refine ⟨?_,?_⟩
  ·omega
  ·(try simp only [jF])
   refine qH _ _ _ _ (by simp) (by simpa using hl) ?_
   simp [hg,cw,bE,iC,hk1]
 ·rw [List.take_length]
  simp -implicitDefEqProofs [sy,Bk]
theorem y7 (l : List ah) (k : Int) (hk : 0≤k) (hn : k + (nL aC l : Nat)≤1000000000000000) : ev LI TT 85 [.row .own 1 (l.map eS),.int .i64 k] = some (.int .i64 (k + ((nL aC l : Nat) : Int)),[.row .own 1 ((aQ bE aC l k).map eS),.dead]):=by
 rw [az (b:=wI) (rs:=[.t 4]) (n:=2) rfl rfl]
 have u1:=Ia l k hk hn
 simp [nL] at u1
 simp -implicitDefEqProofs [wI,u1,nL]
 all_goals (repeat' split) <;> first | rfl | omega | (simp_all; done) | (simp_all; omega) | skip
theorem HZ (l : List ah) (k : Int) (hk : 0≤k) (hn : k + (nL aC l : Nat)≤1000000000000000) : aK (ai (ev LI TT) (ak TT) sn) [(0,.row .af 1 ((aQ bE aC l k).map eS)),(1,.int .i64 (k + ((nL aC (l.take 0) : Nat) : Int))),(5,.int .i64 0)] = some (.exit 0,[(0,.row .af 1 ((aQ bE aC l k).map eS)),(1,.int .i64 (k + ((nL aC l : Nat) : Int))),(5,.int .i64 l.length),(9,.bool false)]):=by
 refine eP (f:=ai (ev LI TT) (ak TT) sn) (l) (fun i=>[(0,.row .af 1 ((aQ bE aC l k).map eS)),(1,.int .i64 (k + ((nL aC (l.take i) : Nat) : Int))),(5,.int .i64 i)]) _ (fun i b hi hl=>?_) ?_
 ·have hw:=aT i (by have:=jG aC (fun _=>Nat.le_refl 1) l; omega)
  obtain ⟨_,rfl⟩:=List.getElem?_eq_some_iff.1 hi
  have hnt:=jH aC l i hl
  have hns:=jd aC l i hl
  have hg:=jc bE aC l k i hl (by simpa using hl)
  obtain ⟨k0,hk0⟩ : ∃ k0,k + ((nL aC (l.take i) : Nat) : Int) = k0:=⟨_,rfl⟩
  rw [hk0] at hg
  have hce : aC l[i] = 1:=rfl
  have m0:=fj k0 (by omega)
  obtain ⟨k1,hk1⟩ : ∃ x,k0 + 1 = x:=⟨_,rfl⟩
  have e0 : IntKind.i64.wrap (k0 + 1) = k1:=by rw [← hk1]; exact aO (by omega) (by omega)
  have f0 : IntKind.i64.wrap k1 = k1:=aO (by omega) (by omega)
  simp -implicitDefEqProofs [sn,Bf,hl,hw,hk0,hg,cw,bE,iC,hk1,m0,e0,f0]
  omega
 ·rw [List.take_length]
  simp -implicitDefEqProofs [sn,Bf]
theorem y6 (l : List ah) (k : Int) (hk : 0≤k) (hn : k + (nL aC l : Nat)≤1000000000000000) : ev LI TT 87 [.row .af 1 ((aQ bE aC l k).map eS),.int .i64 k] = some (.int .i64 (k + ((nL aC l : Nat) : Int)),[.dead,.dead]):=by
 rw [az (b:=wB) (rs:=[.t 4]) (n:=2) rfl rfl]
 have u1:=HZ l k hk hn
 simp [nL] at u1
 simp -implicitDefEqProofs [wB,u1,nL]
 all_goals (repeat' split) <;> first | rfl | omega | (simp_all; done) | (simp_all; omega) | skip
theorem Ic (l : List Wr) (k : Int) (hk : 0≤k) (hn : k + (nL bR l : Nat)≤1000000000000000) : aK (ai (ev LI TT) (ak TT) sB) [(0,.ref 100000 []),(1,.int .i64 (k + ((nL bR (l.take 0) : Nat) : Int))),(5,.int .i64 0),(100000,.row .own 2 (cW ((aQ gS bR l k).map eW) (l.map eW) 0))] = some (.exit 0,[(0,.ref 100000 []),(1,.int .i64 (k + ((nL bR l : Nat) : Int))),(5,.int .i64 l.length),(9,.bool false),(100000,.row .own 2 ((aQ gS bR l k).map eW))]):=by
 refine eP (f:=ai (ev LI TT) (ak TT) sB) (l) (fun i=>[(0,.ref 100000 []),(1,.int .i64 (k + ((nL bR (l.take i) : Nat) : Int))),(5,.int .i64 i),(100000,.row .own 2 (cW ((aQ gS bR l k).map eW) (l.map eW) i))]) _ (fun i b hi hl=>?_) ?_
 ·have hw:=aT i (by have:=jG bR Eb l; omega)
  obtain ⟨_,rfl⟩:=List.getElem?_eq_some_iff.1 hi
  have hnt:=jH bR l i hl
  have hns:=jd bR l i hl
  have hg:=jc gS bR l k i hl (by simpa using hl)
  obtain ⟨k0,hk0⟩ : ∃ k0,k + ((nL bR (l.take i) : Nat) : Int) = k0:=⟨_,rfl⟩
  rw [hk0] at hg
  have hce : bR l[i] = 2:=rfl
  obtain ⟨k1,hk1⟩ : ∃ x,k0 + 1 = x:=⟨_,rfl⟩
  have e0 : IntKind.i64.wrap (k0 + 1) = k1:=by rw [← hk1]; exact aO (by omega) (by omega)
  have m1:=fj k1 (by omega)
  obtain ⟨k2,hk2⟩ : ∃ x,k1 + 1 = x:=⟨_,rfl⟩
  have e1 : IntKind.i64.wrap (k1 + 1) = k2:=by rw [← hk2]; exact aO (by omega) (by omega)
  simp -implicitDefEqProofs [sB,Bm,hl,hw,hk0,e0,m1,e1]
  refine ⟨?_,?_⟩
  ·omega
  ·(try simp only [jF])
   refine qH _ _ _ _ (by simp) (by simpa using hl) ?_
   simp [hg,gS,cw,bE,iC,hk1,hk2]
 ·rw [List.take_length]
  simp -implicitDefEqProofs [sB,Bm]
theorem Kb (l : List Wr) (k : Int) (hk : 0≤k) (hn : k + (nL bR l : Nat)≤1000000000000000) : ev LI TT 133 [.row .own 2 (l.map eW),.int .i64 k] = some (.int .i64 (k + ((nL bR l : Nat) : Int)),[.row .own 2 ((aQ gS bR l k).map eW),.dead]):=by
 rw [az (b:=wK) (rs:=[.t 4]) (n:=2) rfl rfl]
 have u1:=Ic l k hk hn
 simp [nL] at u1
 simp -implicitDefEqProofs [wK,u1,nL]
 all_goals (repeat' split) <;> first | rfl | omega | (simp_all; done) | (simp_all; omega) | skip
theorem H6 (l : List Wr) (k : Int) (hk : 0≤k) (hn : k + (nL bR l : Nat)≤1000000000000000) : aK (ai (ev LI TT) (ak TT) so) [(0,.row .af 2 ((aQ gS bR l k).map eW)),(1,.int .i64 (k + ((nL bR (l.take 0) : Nat) : Int))),(5,.int .i64 0)] = some (.exit 0,[(0,.row .af 2 ((aQ gS bR l k).map eW)),(1,.int .i64 (k + ((nL bR l : Nat) : Int))),(5,.int .i64 l.length),(9,.bool false)]):=by
 refine eP (f:=ai (ev LI TT) (ak TT) so) (l) (fun i=>[(0,.row .af 2 ((aQ gS bR l k).map eW)),(1,.int .i64 (k + ((nL bR (l.take i) : Nat) : Int))),(5,.int .i64 i)]) _ (fun i b hi hl=>?_) ?_
 ·have hw:=aT i (by have:=jG bR Eb l; omega)
  obtain ⟨_,rfl⟩:=List.getElem?_eq_some_iff.1 hi
  have hnt:=jH bR l i hl
  have hns:=jd bR l i hl
  have hg:=jc gS bR l k i hl (by simpa using hl)
  obtain ⟨k0,hk0⟩ : ∃ k0,k + ((nL bR (l.take i) : Nat) : Int) = k0:=⟨_,rfl⟩
  rw [hk0] at hg
  have hce : bR l[i] = 2:=rfl
  obtain ⟨k1,hk1⟩ : ∃ x,k0 + 1 = x:=⟨_,rfl⟩
  have e0 : IntKind.i64.wrap (k0 + 1) = k1:=by rw [← hk1]; exact aO (by omega) (by omega)
  have f0 : IntKind.i64.wrap k1 = k1:=aO (by omega) (by omega)
  have m1:=fj k1 (by omega)
  obtain ⟨k2,hk2⟩ : ∃ x,k1 + 1 = x:=⟨_,rfl⟩
  have e1 : IntKind.i64.wrap (k1 + 1) = k2:=by rw [← hk2]; exact aO (by omega) (by omega)
  have f1 : IntKind.i64.wrap k2 = k2:=aO (by omega) (by omega)
  simp -implicitDefEqProofs [so,Bg,hl,hw,hk0,hg,gS,cw,bE,iC,hk1,hk2,e0,f0,m1,e1,f1]
  omega
 ·rw [List.take_length]
  simp -implicitDefEqProofs [so,Bg]
theorem J6 (l : List Wr) (k : Int) (hk : 0≤k) (hn : k + (nL bR l : Nat)≤1000000000000000) : ev LI TT 199 [.row .af 2 ((aQ gS bR l k).map eW),.int .i64 k] = some (.int .i64 (k + ((nL bR l : Nat) : Int)),[.dead,.dead]):=by
 rw [az (b:=wC) (rs:=[.t 4]) (n:=2) rfl rfl]
 have u1:=H6 l k hk hn
 simp [nL] at u1
 simp -implicitDefEqProofs [wC,u1,nL]
 all_goals (repeat' split) <;> first | rfl | omega | (simp_all; done) | (simp_all; omega) | skip
theorem H9 (l : List Kp) (k : Int) (hk : 0≤k) (hn : k + (nL bN l : Nat)≤1000000000000000) : aK (ai (ev LI TT) (ak TT) sx) [(0,.ref 100000 []),(1,.int .i64 (k + ((nL bN (l.take 0) : Nat) : Int))),(5,.int .i64 0),(100000,.row .own 9 (cW ((aQ gR bN l k).map (aB .own)) (l.map (aB .own)) 0))] = some (.exit 0,[(0,.ref 100000 []),(1,.int .i64 (k + ((nL bN l : Nat) : Int))),(5,.int .i64 l.length),(9,.bool false),(100000,.row .own 9 ((aQ gR bN l k).map (aB .own)))]):=by
 refine eP (f:=ai (ev LI TT) (ak TT) sx) (l) (fun i=>[(0,.ref 100000 []),(1,.int .i64 (k + ((nL bN (l.take i) : Nat) : Int))),(5,.int .i64 i),(100000,.row .own 9 (cW ((aQ gR bN l k).map (aB .own)) (l.map (aB .own)) i))]) _ (fun i b hi hl=>?_) ?_
 ·have hw:=aT i (by have:=jG bN D9 l; omega)
  obtain ⟨_,rfl⟩:=List.getElem?_eq_some_iff.1 hi
  have hnt:=jH bN l i hl
  have hns:=jd bN l i hl
  have hg:=jc gR bN l k i hl (by simpa using hl)
  obtain ⟨k0,hk0⟩ : ∃ k0,k + ((nL bN (l.take i) : Nat) : Int) = k0:=⟨_,rfl⟩
  rw [hk0] at hg
  have hce : bN l[i] = 6 + nL aC l[i].obj.names + nL aC l[i].obj.values + nL aE l[i].obj.resp.fields:=rfl
  have m0:=fj k0 (by omega)
  obtain ⟨k1,hk1⟩ : ∃ x,k0 + 1 = x:=⟨_,rfl⟩
  have e0 : IntKind.i64.wrap (k0 + 1) = k1:=by rw [← hk1]; exact aO (by omega) (by omega)
  have u1:=y7 l[i].obj.names k1 (by omega) (by omega)
  obtain ⟨k2,hk2⟩ : ∃ x,k1 + ((nL aC l[i].obj.names : Nat) : Int) = x:=⟨_,rfl⟩
  rw [hk2] at u1
  try simp at u1
  have u2:=y7 l[i].obj.values k2 (by omega) (by omega)
  obtain ⟨k3,eL⟩ : ∃ x,k2 + ((nL aC l[i].obj.values : Nat) : Int) = x:=⟨_,rfl⟩
  rw [eL] at u2
  try simp at u2
  obtain ⟨k4,iU⟩ : ∃ x,k3 + 1 = x:=⟨_,rfl⟩
  have e3 : IntKind.i64.wrap (k3 + 1) = k4:=by rw [← iU]; exact aO (by omega) (by omega)
  have u4:=J9 l[i].obj.resp.fields k4 (by omega) (by omega)
  obtain ⟨k5,qW⟩ : ∃ x,k4 + ((nL aE l[i].obj.resp.fields : Nat) : Int) = x:=⟨_,rfl⟩
  rw [qW] at u4
  try simp at u4
  have m5:=fj k5 (by omega)
  obtain ⟨k6,qX⟩ : ∃ x,k5 + 1 = x:=⟨_,rfl⟩
  have e5 : IntKind.i64.wrap (k5 + 1) = k6:=by rw [← qX]; exact aO (by omega) (by omega)
  obtain ⟨k7,qY⟩ : ∃ x,k6 + 1 = x:=⟨_,rfl⟩
  have e6 : IntKind.i64.wrap (k6 + 1) = k7:=by rw [← qY]; exact aO (by omega) (by omega)
  obtain ⟨k8,qZ⟩ : ∃ x,k7 + 1 = x:=⟨_,rfl⟩
  have e7 : IntKind.i64.wrap (k7 + 1) = k8:=by rw [← qZ]; exact aO (by omega) (by omega)
  obtain ⟨k9,q5⟩ : ∃ x,k8 + 1 = x:=⟨_,rfl⟩
  have e8 : IntKind.i64.wrap (k8 + 1) = k9:=by rw [← q5]; exact aO (by omega) (by omega)
  simp -implicitDefEqProofs [sx,Bj,hl,hw,hk0,m0,e0,u1,u2,e3,u4,m5,e5,e6,e7,e8]
  refine ⟨?_,?_⟩
  ·omega
  ·(try simp only [jF])
   refine qH _ _ _ _ (by simp) (by simpa using hl) ?_
   simp [hg,gR,cw,bE,iC,hk1,hk2,eL,iU,qW,qX,qY,qZ,q5]
 ·rw [List.take_length]
  simp -implicitDefEqProofs [sx,Bj]
theorem Ka (l : List Kp) (k : Int) (hk : 0≤k) (hn : k + (nL bN l : Nat)≤1000000000000000) : ev LI TT 82 [.row .own 9 (l.map (aB .own)),.int .i64 k] = some (.int .i64 (k + ((nL bN l : Nat) : Int)),[.row .own 9 ((aQ gR bN l k).map (aB .own)),.dead]):=by
 rw [az (b:=wG) (rs:=[.t 4]) (n:=2) rfl rfl]
 have u1:=H9 l k hk hn
 simp [nL] at u1
 simp -implicitDefEqProofs [wG,u1,nL]
 all_goals (repeat' split) <;> first | rfl | omega | (simp_all; done) | (simp_all; omega) | skip
theorem HY (l : List Kp) (k : Int) (hk : 0≤k) (hn : k + (nL bN l : Nat)≤1000000000000000) : aK (ai (ev LI TT) (ak TT) sj) [(0,.row .af 9 ((aQ gR bN l k).map (aB .af))),(1,.int .i64 (k + ((nL bN (l.take 0) : Nat) : Int))),(5,.int .i64 0)] = some (.exit 0,[(0,.row .af 9 ((aQ gR bN l k).map (aB .af))),(1,.int .i64 (k + ((nL bN l : Nat) : Int))),(5,.int .i64 l.length),(9,.bool false)]):=by
 refine eP (f:=ai (ev LI TT) (ak TT) sj) (l) (fun i=>[(0,.row .af 9 ((aQ gR bN l k).map (aB .af))),(1,.int .i64 (k + ((nL bN (l.take i) : Nat) : Int))),(5,.int .i64 i)]) _ (fun i b hi hl=>?_) ?_
 ·have hw:=aT i (by have:=jG bN D9 l; omega)
  obtain ⟨_,rfl⟩:=List.getElem?_eq_some_iff.1 hi
  have hnt:=jH bN l i hl
  have hns:=jd bN l i hl
  have hg:=jc gR bN l k i hl (by simpa using hl)
  obtain ⟨k0,hk0⟩ : ∃ k0,k + ((nL bN (l.take i) : Nat) : Int) = k0:=⟨_,rfl⟩
  rw [hk0] at hg
  have hce : bN l[i] = 6 + nL aC l[i].obj.names + nL aC l[i].obj.values + nL aE l[i].obj.resp.fields:=rfl
  have m0:=fj k0 (by omega)
  obtain ⟨k1,hk1⟩ : ∃ x,k0 + 1 = x:=⟨_,rfl⟩
  have e0 : IntKind.i64.wrap (k0 + 1) = k1:=by rw [← hk1]; exact aO (by omega) (by omega)
  have f0 : IntKind.i64.wrap k1 = k1:=aO (by omega) (by omega)
  have u1:=y6 l[i].obj.names k1 (by omega) (by omega)
  obtain ⟨k2,hk2⟩ : ∃ x,k1 + ((nL aC l[i].obj.names : Nat) : Int) = x:=⟨_,rfl⟩
  rw [hk2] at u1
  try simp at u1
  have n1 : ¬ k2 < 0:=by omega
  have u2:=y6 l[i].obj.values k2 (by omega) (by omega)
  obtain ⟨k3,eL⟩ : ∃ x,k2 + ((nL aC l[i].obj.values : Nat) : Int) = x:=⟨_,rfl⟩
  rw [eL] at u2
  try simp at u2
  have n2 : ¬ k3 < 0:=by omega
  obtain ⟨k4,iU⟩ : ∃ x,k3 + 1 = x:=⟨_,rfl⟩
  have e3 : IntKind.i64.wrap (k3 + 1) = k4:=by rw [← iU]; exact aO (by omega) (by omega)
  have f3 : IntKind.i64.wrap k4 = k4:=aO (by omega) (by omega)
  have u4:=J3 l[i].obj.resp.fields k4 (by omega) (by omega)
  obtain ⟨k5,qW⟩ : ∃ x,k4 + ((nL aE l[i].obj.resp.fields : Nat) : Int) = x:=⟨_,rfl⟩
  rw [qW] at u4
  try simp at u4
  have n4 : ¬ k5 < 0:=by omega
  have m5:=fj k5 (by omega)
  obtain ⟨k6,qX⟩ : ∃ x,k5 + 1 = x:=⟨_,rfl⟩
  have e5 : IntKind.i64.wrap (k5 + 1) = k6:=by rw [← qX]; exact aO (by omega) (by omega)
  have f5 : IntKind.i64.wrap k6 = k6:=aO (by omega) (by omega)
  obtain ⟨k7,qY⟩ : ∃ x,k6 + 1 = x:=⟨_,rfl⟩
  have e6 : IntKind.i64.wrap (k6 + 1) = k7:=by rw [← qY]; exact aO (by omega) (by omega)
  have f6 : IntKind.i64.wrap k7 = k7:=aO (by omega) (by omega)
  obtain ⟨k8,qZ⟩ : ∃ x,k7 + 1 = x:=⟨_,rfl⟩
  have e7 : IntKind.i64.wrap (k7 + 1) = k8:=by rw [← qZ]; exact aO (by omega) (by omega)
  have f7 : IntKind.i64.wrap k8 = k8:=aO (by omega) (by omega)
  obtain ⟨k9,q5⟩ : ∃ x,k8 + 1 = x:=⟨_,rfl⟩
  have e8 : IntKind.i64.wrap (k8 + 1) = k9:=by rw [← q5]; exact aO (by omega) (by omega)
  have f8 : IntKind.i64.wrap k9 = k9:=aO (by omega) (by omega)
  simp -implicitDefEqProofs [sj,Be,hl,hw,hk0,hg,gR,cw,bE,iC,hk1,hk2,eL,iU,qW,qX,qY,qZ,q5,m0,e0,f0,u1,n1,u2,n2,e3,f3,u4,n4,m5,e5,f5,e6,f6,e7,f7,e8,f8]
  omega
 ·rw [List.take_length]
  simp -implicitDefEqProofs [sj,Be]
theorem J4 (l : List Kp) (k : Int) (hk : 0≤k) (hn : k + (nL bN l : Nat)≤1000000000000000) : ev LI TT 103 [.row .af 9 ((aQ gR bN l k).map (aB .af)),.int .i64 k] = some (.int .i64 (k + ((nL bN l : Nat) : Int)),[.dead,.dead]):=by
 rw [az (b:=wz) (rs:=[.t 4]) (n:=2) rfl rfl]
 have u1:=HY l k hk hn
 simp [nL] at u1
 simp -implicitDefEqProofs [wz,u1,nL]
 all_goals (repeat' split) <;> first | rfl | omega | (simp_all; done) | (simp_all; omega) | skip
theorem H7 (l : List Bn) (k : Int) (hk : 0≤k) (hn : k + (nL bQ l : Nat)≤1000000000000000) : aK (ai (ev LI TT) (ak TT) su) [(0,.ref 100000 []),(1,.int .i64 (k + ((nL bQ (l.take 0) : Nat) : Int))),(5,.int .i64 0),(100000,.row .own 4 (cW ((aQ gQ bQ l k).map aM) (l.map aM) 0))] = some (.exit 0,[(0,.ref 100000 []),(1,.int .i64 (k + ((nL bQ l : Nat) : Int))),(5,.int .i64 l.length),(9,.bool false),(100000,.row .own 4 ((aQ gQ bQ l k).map aM))]):=by
 refine eP (f:=ai (ev LI TT) (ak TT) su) (l) (fun i=>[(0,.ref 100000 []),(1,.int .i64 (k + ((nL bQ (l.take i) : Nat) : Int))),(5,.int .i64 i),(100000,.row .own 4 (cW ((aQ gQ bQ l k).map aM) (l.map aM) i))]) _ (fun i b hi hl=>?_) ?_
 ·have hw:=aT i (by have:=jG bQ D7 l; omega)
  obtain ⟨_,rfl⟩:=List.getElem?_eq_some_iff.1 hi
  have hnt:=jH bQ l i hl
  have hns:=jd bQ l i hl
  have hg:=jc gQ bQ l k i hl (by simpa using hl)
  obtain ⟨k0,hk0⟩ : ∃ k0,k + ((nL bQ (l.take i) : Nat) : Int) = k0:=⟨_,rfl⟩
  rw [hk0] at hg
  have hce : bQ l[i] = 4:=rfl
  obtain ⟨k1,hk1⟩ : ∃ x,k0 + 1 = x:=⟨_,rfl⟩
  have e0 : IntKind.i64.wrap (k0 + 1) = k1:=by rw [← hk1]; exact aO (by omega) (by omega)
  have m1:=fj k1 (by omega)
  obtain ⟨k2,hk2⟩ : ∃ x,k1 + 1 = x:=⟨_,rfl⟩
  have e1 : IntKind.i64.wrap (k1 + 1) = k2:=by rw [← hk2]; exact aO (by omega) (by omega)
  have m2:=fj k2 (by omega)
  obtain ⟨k3,eL⟩ : ∃ x,k2 + 1 = x:=⟨_,rfl⟩
  have e2 : IntKind.i64.wrap (k2 + 1) = k3:=by rw [← eL]; exact aO (by omega) (by omega)
  obtain ⟨k4,iU⟩ : ∃ x,k3 + 1 = x:=⟨_,rfl⟩
  have e3 : IntKind.i64.wrap (k3 + 1) = k4:=by rw [← iU]; exact aO (by omega) (by omega)
  simp -implicitDefEqProofs [su,Bh,hl,hw,hk0,e0,m1,e1,m2,e2,e3]
  refine ⟨?_,?_⟩
  ·omega
  ·(try simp only [jF])
   refine qH _ _ _ _ (by simp) (by simpa using hl) ?_
   simp [hg,gQ,cw,bE,iC,hk1,hk2,eL,iU]
 ·rw [List.take_length]
  simp -implicitDefEqProofs [su,Bh]
theorem J7 (l : List Bn) (k : Int) (hk : 0≤k) (hn : k + (nL bQ l : Nat)≤1000000000000000) : ev LI TT 83 [.row .own 4 (l.map aM),.int .i64 k] = some (.int .i64 (k + ((nL bQ l : Nat) : Int)),[.row .own 4 ((aQ gQ bQ l k).map aM),.dead]):=by
 rw [az (b:=wD) (rs:=[.t 4]) (n:=2) rfl rfl]
 have u1:=H7 l k hk hn
 simp [nL] at u1
 simp -implicitDefEqProofs [wD,u1,nL]
 all_goals (repeat' split) <;> first | rfl | omega | (simp_all; done) | (simp_all; omega) | skip
theorem HW (l : List Bn) (k : Int) (hk : 0≤k) (hn : k + (nL bQ l : Nat)≤1000000000000000) : aK (ai (ev LI TT) (ak TT) sg) [(0,.row .af 4 ((aQ gQ bQ l k).map aM)),(1,.int .i64 (k + ((nL bQ (l.take 0) : Nat) : Int))),(5,.int .i64 0)] = some (.exit 0,[(0,.row .af 4 ((aQ gQ bQ l k).map aM)),(1,.int .i64 (k + ((nL bQ l : Nat) : Int))),(5,.int .i64 l.length),(9,.bool false)]):=by
 refine eP (f:=ai (ev LI TT) (ak TT) sg) (l) (fun i=>[(0,.row .af 4 ((aQ gQ bQ l k).map aM)),(1,.int .i64 (k + ((nL bQ (l.take i) : Nat) : Int))),(5,.int .i64 i)]) _ (fun i b hi hl=>?_) ?_
 ·have hw:=aT i (by have:=jG bQ D7 l; omega)
  obtain ⟨_,rfl⟩:=List.getElem?_eq_some_iff.1 hi
  have hnt:=jH bQ l i hl
  have hns:=jd bQ l i hl
  have hg:=jc gQ bQ l k i hl (by simpa using hl)
  obtain ⟨k0,hk0⟩ : ∃ k0,k + ((nL bQ (l.take i) : Nat) : Int) = k0:=⟨_,rfl⟩
  rw [hk0] at hg
  have hce : bQ l[i] = 4:=rfl
  obtain ⟨k1,hk1⟩ : ∃ x,k0 + 1 = x:=⟨_,rfl⟩
  have e0 : IntKind.i64.wrap (k0 + 1) = k1:=by rw [← hk1]; exact aO (by omega) (by omega)
  have f0 : IntKind.i64.wrap k1 = k1:=aO (by omega) (by omega)
  have m1:=fj k1 (by omega)
  obtain ⟨k2,hk2⟩ : ∃ x,k1 + 1 = x:=⟨_,rfl⟩
  have e1 : IntKind.i64.wrap (k1 + 1) = k2:=by rw [← hk2]; exact aO (by omega) (by omega)
  have f1 : IntKind.i64.wrap k2 = k2:=aO (by omega) (by omega)
  have m2:=fj k2 (by omega)
  obtain ⟨k3,eL⟩ : ∃ x,k2 + 1 = x:=⟨_,rfl⟩
  have e2 : IntKind.i64.wrap (k2 + 1) = k3:=by rw [← eL]; exact aO (by omega) (by omega)
  have f2 : IntKind.i64.wrap k3 = k3:=aO (by omega) (by omega)
  obtain ⟨k4,iU⟩ : ∃ x,k3 + 1 = x:=⟨_,rfl⟩
  have e3 : IntKind.i64.wrap (k3 + 1) = k4:=by rw [← iU]; exact aO (by omega) (by omega)
  have f3 : IntKind.i64.wrap k4 = k4:=aO (by omega) (by omega)
  simp -implicitDefEqProofs [sg,Bc,hl,hw,hk0,hg,gQ,cw,bE,iC,hk1,hk2,eL,iU,e0,f0,m1,e1,f1,m2,e2,f2,e3,f3]
  omega
 ·rw [List.take_length]
  simp -implicitDefEqProofs [sg,Bc]
theorem J1 (l : List Bn) (k : Int) (hk : 0≤k) (hn : k + (nL bQ l : Nat)≤1000000000000000) : ev LI TT 104 [.row .af 4 ((aQ gQ bQ l k).map aM),.int .i64 k] = some (.int .i64 (k + ((nL bQ l : Nat) : Int)),[.dead,.dead]):=by
 rw [az (b:=wq) (rs:=[.t 4]) (n:=2) rfl rfl]
 have u1:=HW l k hk hn
 simp [nL] at u1
 simp -implicitDefEqProofs [wq,u1,nL]
 all_goals (repeat' split) <;> first | rfl | omega | (simp_all; done) | (simp_all; omega) | skip
theorem J8 (a : bW) (k : Int) (hk : 0≤k) (hn : k + (eZ a : Nat)≤1000000000000000) : ev LI TT 49 [.agg (cq .own a),.int .i64 k] = some (.int .i64 (k + ((eZ a : Nat) : Int)),[.agg (cq .own (nT a k)),.dead]):=by
 rw [az (b:=wE) (rs:=[.t 4]) (n:=2) rfl rfl]
 unfold eZ at hn
 unfold eZ nT
 have u1:=y7 a.cells k (by omega) (by omega)
 obtain ⟨k1,hk1⟩ : ∃ x,k + ((nL aC a.cells : Nat) : Int) = x:=⟨_,rfl⟩
 rw [hk1] at u1
 try simp at u1
 have u2:=Kb a.pending k1 (by omega) (by omega)
 obtain ⟨k2,hk2⟩ : ∃ x,k1 + ((nL bR a.pending : Nat) : Int) = x:=⟨_,rfl⟩
 rw [hk2] at u2
 try simp at u2
 have hT : k + ((nL aC a.cells + nL bR a.pending : Nat) : Int) = k2:=by omega
 rw [hT]
 simp -implicitDefEqProofs [wE,u1,hk1,u2,hk2,od,pz,nF,fE,dJ,s9,ga,mP,jL]
 all_goals (repeat' split) <;> first | rfl | omega | (simp_all; done) | (simp_all; omega) | skip
theorem J2 (a : bW) (k : Int) (hk : 0≤k) (hn : k + (eZ a : Nat)≤1000000000000000) : ev LI TT 102 [.agg (cq .af (nT a k)),.int .i64 k] = some (.int .i64 (k + ((eZ a : Nat) : Int)),[.dead,.dead]):=by
 rw [az (b:=wu) (rs:=[.t 4]) (n:=2) rfl rfl]
 unfold eZ at hn
 unfold eZ nT
 have u1:=y6 a.cells k (by omega) (by omega)
 obtain ⟨k1,hk1⟩ : ∃ x,k + ((nL aC a.cells : Nat) : Int) = x:=⟨_,rfl⟩
 rw [hk1] at u1
 try simp at u1
 have n1 : ¬ k1 < 0:=by omega
 have u2:=J6 a.pending k1 (by omega) (by omega)
 obtain ⟨k2,hk2⟩ : ∃ x,k1 + ((nL bR a.pending : Nat) : Int) = x:=⟨_,rfl⟩
 rw [hk2] at u2
 try simp at u2
 have n2 : ¬ k2 < 0:=by omega
 have hT : k + ((nL aC a.cells + nL bR a.pending : Nat) : Int) = k2:=by omega
 rw [hT]
 simp -implicitDefEqProofs [wu,u1,hk1,n1,u2,hk2,n2]
 all_goals (repeat' split) <;> first | rfl | omega | (simp_all; done) | (simp_all; omega) | skip
theorem DA (a : Sh) (k : Int) (hk : 0≤k) (hn : k + (fV a : Nat)≤1000000000000000) : ev LI TT 27 [.agg (aY .own a),.int .i64 k] = some (.int .i64 (k + ((fV a : Nat) : Int)),[.agg (aY .own (kR a k)),.dead]):=by
 rw [az (b:=wH) (rs:=[.t 4]) (n:=2) rfl rfl]
 unfold fV at hn
 unfold fV kR
 have u1:=J8 a.aG k (by omega) (by omega)
 obtain ⟨k1,hk1⟩ : ∃ x,k + ((eZ a.aG : Nat) : Int) = x:=⟨_,rfl⟩
 rw [hk1] at u1
 try simp at u1
 have u2:=Ka a.ay k1 (by omega) (by omega)
 obtain ⟨k2,hk2⟩ : ∃ x,k1 + ((nL bN a.ay : Nat) : Int) = x:=⟨_,rfl⟩
 rw [hk2] at u2
 try simp at u2
 have u3:=J7 a.aD k2 (by omega) (by omega)
 obtain ⟨k3,eL⟩ : ∃ x,k2 + ((nL bQ a.aD : Nat) : Int) = x:=⟨_,rfl⟩
 rw [eL] at u3
 try simp at u3
 have hT : k + ((eZ a.aG + nL bN a.ay + nL bQ a.aD : Nat) : Int) = k3:=by omega
 rw [hT]
 simp -implicitDefEqProofs [wH,u1,hk1,u2,hk2,u3,eL,od,pz,nF,fE,dJ,s9,ga,mP,jL,nT]
 all_goals (repeat' split) <;> first | rfl | omega | (simp_all; done) | (simp_all; omega) | skip
theorem J5 (a : Sh) (k : Int) (hk : 0≤k) (hn : k + (fV a : Nat)≤1000000000000000) : ev LI TT 37 [.agg (aY .af (kR a k)),.int .i64 k] = some (.int .i64 (k + ((fV a : Nat) : Int)),[.dead,.dead]):=by
 rw [az (b:=wA) (rs:=[.t 4]) (n:=2) rfl rfl]
 unfold fV at hn
 unfold fV kR
 have u1:=J2 a.aG k (by omega) (by omega)
 obtain ⟨k1,hk1⟩ : ∃ x,k + ((eZ a.aG : Nat) : Int) = x:=⟨_,rfl⟩
 rw [hk1] at u1
 try simp at u1
 have n1 : ¬ k1 < 0:=by omega
 have u2:=J4 a.ay k1 (by omega) (by omega)
 obtain ⟨k2,hk2⟩ : ∃ x,k1 + ((nL bN a.ay : Nat) : Int) = x:=⟨_,rfl⟩
 rw [hk2] at u2
 try simp at u2
 have n2 : ¬ k2 < 0:=by omega
 have u3:=J1 a.aD k2 (by omega) (by omega)
 obtain ⟨k3,eL⟩ : ∃ x,k2 + ((nL bQ a.aD : Nat) : Int) = x:=⟨_,rfl⟩
 rw [eL] at u3
 try simp at u3
 have n3 : ¬ k3 < 0:=by omega
 have hT : k + ((eZ a.aG + nL bN a.ay + nL bQ a.aD : Nat) : Int) = k3:=by omega
 rw [hT]
 simp -implicitDefEqProofs [wA,u1,hk1,n1,u2,hk2,n2,u3,eL,n3]
 all_goals (repeat' split) <;> first | rfl | omega | (simp_all; done) | (simp_all; omega) | skip
end M
namespace M
open Go
@[simp] theorem VD (x : Int) (lo : Int) (hi : Int) : ev LI TT 137 [.int .i64 x,.int .i64 lo,.int .i64 hi] = some (.bool ((decide (lo≤x∧x≤hi))),[.dead,.dead,.dead]):=by
 rw [az (b:=xW) (rs:=[.t 6]) (n:=3) rfl rfl]
 simp -implicitDefEqProofs [xW]
 try (by_cases h1 : lo≤x <;> by_cases h2 : x≤hi <;> simp [h1,h2])
@[simp] theorem Vz (x : Int) (lo : Int) (hi : Int) : ev LI TT 180 [.int .i64 x,.int .i64 lo,.int .i64 hi] = some (.bool ((decide (lo≤x∧x≤hi))),[.dead,.dead,.dead]):=by
 rw [az (b:=vV) (rs:=[.t 6]) (n:=3) rfl rfl]
 simp -implicitDefEqProofs [vV]
 try (by_cases h1 : lo≤x <;> by_cases h2 : x≤hi <;> simp [h1,h2])
theorem ID (s : ah) (hb : s.length≤9223372036854775807) : aK (ai (ev LI TT) (ak TT) tC) [(0,.str ⟨s.toArray⟩),(3,.int .i64 0)] = if aS nU (s) = true then some (.exit 0,[(0,.str ⟨s.toArray⟩),(3,.int .i64 (s).length),(8,.bool false)]) else some (.ret,[(2,.bool false)]):=by
 refine cN (f:=ai (ev LI TT) (ak TT) tC) (s) (fun i=>[(0,.str ⟨s.toArray⟩),(3,.int .i64 i)]) nU _ _ (fun i b hi hl=>?_) ?_
 ·have hw:=aT i (by first | omega | (simp at hl; omega))
  obtain ⟨_,rfl⟩:=List.getElem?_eq_some_iff.1 hi
  unfold nU
  simp -implicitDefEqProofs [tC,Cj,hl,hw]
  all_goals (repeat' split) <;> first | rfl | omega | (simp_all; done) | (simp_all; omega) | skip
 ·simp -implicitDefEqProofs [tC,Cj]
theorem zc (s : ah) (hb : s.length≤9223372036854775807) : ev LI TT 184 [.str ⟨s.toArray⟩] = some (.bool ((ei s)),[.dead]):=by
 rw [az (b:=xB) (rs:=[.t 2]) (n:=1) rfl rfl]
 unfold ei
 have u1:=ID  s hb
 try simp at u1
 simp -implicitDefEqProofs [xB,u1]
 all_goals (repeat' split) <;> first | rfl | omega | (simp_all; done) | (simp_all; omega) | skip
theorem HL (s : ah) (hb : s.length≤9223372036854775807) : aK (ai (ev LI TT) (ak TT) rP) [(0,.str ⟨s.toArray⟩),(3,.int .i64 0)] = if aS nU (s) = true then some (.exit 0,[(0,.str ⟨s.toArray⟩),(3,.int .i64 (s).length),(7,.bool false)]) else some (.ret,[(2,.bool false)]):=by
 refine cN (f:=ai (ev LI TT) (ak TT) rP) (s) (fun i=>[(0,.str ⟨s.toArray⟩),(3,.int .i64 i)]) nU _ _ (fun i b hi hl=>?_) ?_
 ·have hw:=aT i (by first | omega | (simp at hl; omega))
  obtain ⟨_,rfl⟩:=List.getElem?_eq_some_iff.1 hi
  unfold nU
  simp -implicitDefEqProofs [rP,Ax,hl,hw]
  all_goals (repeat' split) <;> first | rfl | omega | (simp_all; done) | (simp_all; omega) | skip
 ·simp -implicitDefEqProofs [rP,Ax]
theorem yX (s : ah) (hb : s.length≤9223372036854775807) : ev LI TT 260 [.str ⟨s.toArray⟩] = some (.bool ((ei s)),[.dead]):=by
 rw [az (b:=vJ) (rs:=[.t 2]) (n:=1) rfl rfl]
 unfold ei
 have u1:=HL  s hb
 try simp at u1
 simp -implicitDefEqProofs [vJ,u1]
 all_goals (repeat' split) <;> first | rfl | omega | (simp_all; done) | (simp_all; omega) | skip
theorem HN (s : ah) (lo : UInt8) (hb : s.length≤9223372036854775807) : aK (ai (ev LI TT) (ak TT) rR) [(0,.str ⟨s.toArray⟩),(1,.int .u8 (lo.toNat : Int)),(5,.int .i64 0)] = if aS (fX lo.toNat) (s) = true then some (.exit 0,[(0,.str ⟨s.toArray⟩),(1,.int .u8 (lo.toNat : Int)),(5,.int .i64 (s).length),(9,.bool false)]) else some (.ret,[(4,.bool false)]):=by
 refine cN (f:=ai (ev LI TT) (ak TT) rR) (s) (fun i=>[(0,.str ⟨s.toArray⟩),(1,.int .u8 (lo.toNat : Int)),(5,.int .i64 i)]) (fX lo.toNat) _ _ (fun i b hi hl=>?_) ?_
 ·have hw:=aT i (by first | omega | (simp at hl; omega))
  obtain ⟨_,rfl⟩:=List.getElem?_eq_some_iff.1 hi
  unfold fX
  simp -implicitDefEqProofs [rR,Az,hl,hw]
  all_goals (repeat' split) <;> first | rfl | omega | (simp_all; done) | (simp_all; omega) | skip
 ·simp -implicitDefEqProofs [rR,Az]
theorem Dv (s : ah) (lo : UInt8) (hb : s.length≤9223372036854775807) : ev LI TT 305 [.str ⟨s.toArray⟩,.int .u8 (lo.toNat : Int)] = some (.bool ((aS (fX lo.toNat) s)),[.dead,.dead]):=by
 rw [az (b:=vM) (rs:=[.t 4]) (n:=2) rfl rfl]
 have u1:=HN  s lo hb
 try simp at u1
 simp -implicitDefEqProofs [vM,u1]
 all_goals (repeat' split) <;> first | rfl | omega | (simp_all; done) | (simp_all; omega) | skip
end M
namespace M
open Go
def cZ (b : UInt8) : Bool:=decide ¬ (b.toNat : Int) = 32
theorem IE (s : ah) (hb : s.length≤9223372036854775807) : aK (ai (ev LI TT) (ak TT) tD) [(0,.str ⟨s.toArray⟩),(3,.int .i64 0),(4,.int .i64 s.length)] = some (.exit 0,(fun (i : Nat)=>[(0,.str ⟨s.toArray⟩),(3,.int .i64 i),(4,.int .i64 s.length),(15,.bool false)]) (cG cZ (s))):=by
 refine FX (f:=ai (ev LI TT) (ak TT) tD) (s) (fun i=>[(0,.str ⟨s.toArray⟩),(3,.int .i64 i),(4,.int .i64 s.length)]) cZ (fun (i : Nat)=>[(0,.str ⟨s.toArray⟩),(3,.int .i64 i),(4,.int .i64 s.length),(15,.bool false)]) (fun i b hi hl=>?_) ?_
 ·have hw:=aT i (by first | omega | (simp at hl; omega))
  obtain ⟨_,rfl⟩:=List.getElem?_eq_some_iff.1 hi
  simp -implicitDefEqProofs [tD,Ck,hl,hw,cZ]
  all_goals (repeat' split) <;> first | rfl | omega | (simp_all; done) | (simp_all; omega) | skip
 ·simp -implicitDefEqProofs [tD,Ck]
theorem IF (s : ah) (k : Nat) (hk : k≤s.length) (hb : s.length≤9223372036854775807) : aK (ai (ev LI TT) (ak TT) tE) [(0,.str ⟨s.toArray⟩),(3,.int .i64 k),(4,.int .i64 ((s.length - 0 : Nat) : Int))] = some (.exit 2,(fun (i : Nat)=>[(0,.str ⟨s.toArray⟩),(3,.int .i64 k),(4,.int .i64 ((s.length - i : Nat) : Int)),(27,.bool false)]) (cG cZ ((s.drop k).reverse))):=by
 refine FX (f:=ai (ev LI TT) (ak TT) tE) ((s.drop k).reverse) (fun i=>[(0,.str ⟨s.toArray⟩),(3,.int .i64 k),(4,.int .i64 ((s.length - i : Nat) : Int))]) cZ (fun (i : Nat)=>[(0,.str ⟨s.toArray⟩),(3,.int .i64 k),(4,.int .i64 ((s.length - i : Nat) : Int)),(27,.bool false)]) (fun i b hi hl=>?_) ?_
 ·have hw:=aT i (by first | omega | (simp at hl; omega))
  obtain ⟨_,rfl⟩:=List.getElem?_eq_some_iff.1 hi
  simp at hl
  obtain ⟨m,hm⟩ : ∃ m,s.length - i = m + 1:=⟨s.length - i - 1,by omega⟩
  have e1 : s.length - (i + 1) = m:=by omega
  have e2 : IntKind.i64.wrap (m : Int) = m:=aO (by omega) (by omega)
  have e3 : m < s.length:=by omega
  have e4 : ((s.drop k).reverse)[i] = s[m]:=by simp; congr 1; omega
  have e5 : (k : Int) < (m : Int) + 1:=by omega
  rw [e4,hm,e1]
  simp -implicitDefEqProofs [tE,Cl,hl,hw,cZ,e2,e3,e5]
  try (rw [List.getElem?_eq_getElem e3]; simp [e2])
  all_goals (repeat' split) <;> first | rfl | omega | (simp_all; done) | (simp_all; omega) | skip
 ·simp only [List.length_reverse,List.length_drop,show s.length - (s.length - k) = k by omega]
  simp -implicitDefEqProofs [tE,Cl]
end M
namespace M
open Go
theorem F9 (b : UInt8) : cZ b = true↔b≠32:=by
 unfold cZ
 have : ((b.toNat : Int) = 32)↔b = 32:=by
  constructor
  ·intro h; exact UInt8.toNat_inj.1 (by have e : (32 : UInt8).toNat = 32:=rfl; omega)
  ·rintro rfl; rfl
 simp [this]
theorem G9 (s : ah) : Lib.trimLeftB s 32 = s.drop (cG cZ s):=by
 refine Lib.trimLeftB_drop s 32 _ (yu _ _) (fun j b hj hb=>?_) fun b hb=>(F9 b).1 (Hi _ _ _ hb)
 have:=Hj _ _ _ _ hj hb
 by_cases h : b = 32
 ·exact h
 ·rw [(F9 b).2 h] at this; cases this
theorem UQ (s : ah) : Lib.trimRightB s 32 = s.take (s.length - cG cZ s.reverse):=by
 have h:=G9 s.reverse
 unfold Lib.trimLeftB at h
 unfold Lib.trimRightB
 rw [h,List.drop_reverse,List.reverse_reverse]
theorem UR (s : ah) : (s.drop (cG cZ s)).take (s.length - cG cZ (s.drop (cG cZ s)).reverse - cG cZ s) = dw s:=by
 rw [US,G9,UQ,List.length_drop]
 congr 1
 omega
theorem zd (s : ah) (hb : s.length≤9223372036854775807) : ev LI TT 264 [.str ⟨s.toArray⟩] = some (.str ⟨(dw s).toArray⟩,[.dead]):=by
 rw [az (b:=xC) (rs:=[.t 2]) (n:=1) rfl rfl]
 have h1:=yu cZ s
 have h2:=yu cZ (s.drop (cG cZ s)).reverse
 simp only [List.length_reverse,List.length_drop] at h2
 have h3:=UR s
 have u1:=IE  s hb
 try simp at u1
 have u2:=IF  s (cG cZ s) (yu _ _) hb
 try simp at u2
 simp -implicitDefEqProofs [xC,u1,u2,(by omega : (cG cZ s : Int)≤((s.length - cG cZ (s.drop (cG cZ s)).reverse : Nat) : Int)),(by omega : ((s.length - cG cZ (s.drop (cG cZ s)).reverse : Nat) : Int)≤s.length),Lib.extract_mk,h3]
 all_goals (repeat' split) <;> first | rfl | omega | (simp_all; done) | (simp_all; omega) | skip
theorem Du (s : ah) (hb : s.length≤9223372036854775807) : ev LI TT 306 [.str ⟨s.toArray⟩] = some (.str ⟨(dw s).toArray⟩,[.dead]):=by
 rw [az (b:=vK) (rs:=[.t 2]) (n:=1) rfl rfl]
 have u1:=K5  s hb
 try simp at u1
 simp -implicitDefEqProofs [vK,u1]
 all_goals (repeat' split) <;> first | rfl | omega | (simp_all; done) | (simp_all; omega) | skip
theorem IG (s : ah) (hb : s.length≤9223372036854775807) : aK (ai (ev LI TT) (ak TT) tF) [(0,.str ⟨s.toArray⟩),(3,.int .i64 0)] = if aS (fX 32) (s) = true then some (.exit 0,[(0,.str ⟨s.toArray⟩),(3,.int .i64 (s).length),(7,.bool false)]) else some (.ret,[(2,.bool false)]):=by
 refine cN (f:=ai (ev LI TT) (ak TT) tF) (s) (fun i=>[(0,.str ⟨s.toArray⟩),(3,.int .i64 i)]) (fX 32) _ _ (fun i b hi hl=>?_) ?_
 ·have hw:=aT i (by first | omega | (simp at hl; omega))
  obtain ⟨_,rfl⟩:=List.getElem?_eq_some_iff.1 hi
  unfold fX
  simp -implicitDefEqProofs [tF,Cm,hl,hw]
  all_goals (repeat' split) <;> first | rfl | omega | (simp_all; done) | (simp_all; omega) | skip
 ·simp -implicitDefEqProofs [tF,Cm]
theorem ze (s : ah) (hb : s.length≤9223372036854775807) : ev LI TT 185 [.str ⟨s.toArray⟩] = some (.bool ((fW s)),[.dead]):=by
 rw [az (b:=nN) (rs:=[.t 2]) (n:=1) rfl rfl]
 unfold fW
 have u1:=IG  s hb
 try simp at u1
 have u2:=zd  s hb
 try simp at u2
 by_cases g1 : aS (fX 32) s = true
 rotate_left
 ·simp -implicitDefEqProofs [nN,u1,u2,g1]
 by_cases g2 : 1≤(s.length : Int)
 rotate_left
 ·simp -implicitDefEqProofs [nN,u1,u2,g1,eq_false g2]
 by_cases g3 : (s.length : Int)≤60
 rotate_left
 ·simp -implicitDefEqProofs [nN,u1,u2,g1,eq_true g2,eq_false g3]
 simp -implicitDefEqProofs [nN,u1,u2,g1,eq_true g2,eq_true g3]
 all_goals (repeat' split) <;> first | rfl | omega | (simp_all; done) | (simp_all; omega) | skip
theorem yY (s : ah) (hb : s.length≤9223372036854775807) : ev LI TT 261 [.str ⟨s.toArray⟩] = some (.bool ((fW s)),[.dead]):=by
 rw [az (b:=nj) (rs:=[.t 2]) (n:=1) rfl rfl]
 unfold fW
 have Wm : (32 : UInt8).toNat = 32:=rfl
 have u1:=Dv  s 32 hb
 try simp at u1
 have u2:=Du  s hb
 try simp at u2
 by_cases g1 : 1≤(s.length : Int)
 rotate_left
 ·simp -implicitDefEqProofs [nj,u1,u2,eq_false g1]
 by_cases g2 : (s.length : Int)≤60
 rotate_left
 ·simp -implicitDefEqProofs [nj,u1,u2,eq_true g1,eq_false g2]
 by_cases g3 : aS (fX 32) s = true
 rotate_left
 ·simp -implicitDefEqProofs [nj,u1,u2,eq_true g1,eq_true g2,g3]
 simp -implicitDefEqProofs [nj,u1,u2,eq_true g1,eq_true g2,g3]
 all_goals (repeat' split) <;> first | rfl | omega | (simp_all; done) | (simp_all; omega) | skip
theorem IM (s : ah) (hb : s.length≤9223372036854775807) : aK (ai (ev LI TT) (ak TT) tT) [(0,.str ⟨s.toArray⟩),(3,.int .i64 0)] = if aS (fX 33) (s) = true then some (.exit 0,[(0,.str ⟨s.toArray⟩),(3,.int .i64 (s).length),(7,.bool false)]) else some (.ret,[(2,.bool false)]):=by
 refine cN (f:=ai (ev LI TT) (ak TT) tT) (s) (fun i=>[(0,.str ⟨s.toArray⟩),(3,.int .i64 i)]) (fX 33) _ _ (fun i b hi hl=>?_) ?_
 ·have hw:=aT i (by first | omega | (simp at hl; omega))
  obtain ⟨_,rfl⟩:=List.getElem?_eq_some_iff.1 hi
  unfold fX
  simp -implicitDefEqProofs [tT,CJ,hl,hw]
  all_goals (repeat' split) <;> first | rfl | omega | (simp_all; done) | (simp_all; omega) | skip
 ·simp -implicitDefEqProofs [tT,CJ]
theorem DM (s : ah) (hb : s.length≤9223372036854775807) : ev LI TT 160 [.str ⟨s.toArray⟩] = some (.bool ((gT s)),[.dead]):=by
 rw [az (b:=nP) (rs:=[.t 2]) (n:=1) rfl rfl]
 unfold gT
 have u1:=IM  s hb
 try simp at u1
 by_cases g1 : aS (fX 33) s = true
 rotate_left
 ·simp -implicitDefEqProofs [nP,u1,g1]
 by_cases g2 : 1≤(s.length : Int)
 rotate_left
 ·simp -implicitDefEqProofs [nP,u1,g1,eq_false g2]
 by_cases g3 : (s.length : Int)≤60
 rotate_left
 ·simp -implicitDefEqProofs [nP,u1,g1,eq_true g2,eq_false g3]
 obtain ⟨b,hb0⟩ : ∃ b,s[0]? = some b:=⟨s[0]'(by omega),by simp⟩
 simp -implicitDefEqProofs [nP,u1,g1,eq_true g2,eq_true g3,hb0]
 all_goals (repeat' split) <;> first | rfl | omega | (simp_all; done) | (simp_all; omega) | skip
theorem Dx (s : ah) (hb : s.length≤9223372036854775807) : ev LI TT 259 [.str ⟨s.toArray⟩] = some (.bool ((gT s)),[.dead]):=by
 rw [az (b:=oI) (rs:=[.t 2]) (n:=1) rfl rfl]
 unfold gT
 have Wn : (33 : UInt8).toNat = 33:=rfl
 have u1:=Dv  s 33 hb
 try simp at u1
 by_cases g1 : 1≤(s.length : Int)
 rotate_left
 ·simp -implicitDefEqProofs [oI,u1,eq_false g1]
 by_cases g2 : (s.length : Int)≤60
 rotate_left
 ·simp -implicitDefEqProofs [oI,u1,eq_true g1,eq_false g2]
 obtain ⟨b,hb0⟩ : ∃ b,s[0]? = some b:=⟨s[0]'(by omega),by simp⟩
 by_cases Ow : (b.toNat : Int) = 47
 all_goals
 simp -implicitDefEqProofs [oI,u1,eq_true g1,eq_true g2,hb0,Ow]
 all_goals (repeat' split) <;> first | rfl | omega | (simp_all; done) | (simp_all; omega) | skip
@[simp] theorem VC (t : Int) : ev LI TT 143 [.int .i64 t] = some (.bool ((decide (0≤t∧t≤1000000))),[.dead]):=by
 rw [az (b:=vY) (rs:=[.t 2]) (n:=1) rfl rfl]
 simp -implicitDefEqProofs [vY]
 all_goals (repeat' split) <;> first | rfl | omega | (simp_all; done) | (simp_all; omega) | skip
theorem Jx (n : Int) : ev LI TT 250 [.int .i64 n] = some (.str ⟨(kG n).toArray⟩,[.dead]):=by
 rw [az (b:=rK) (rs:=[.t 2]) (n:=1) rfl rfl]
 unfold kG
 by_cases hn : 0≤n∧n≤1000000
 rotate_left
 ·have hf : (decide (0≤n) && decide (n≤1000000)) = false:=by simp; omega
  simp -implicitDefEqProofs [rK,hn,hf]
 obtain ⟨k,rfl⟩ : ∃ k : Nat,n = k:=⟨n.toNat,by omega⟩
 have u1:=uI  k (by omega)
 try simp at u1
 simp -implicitDefEqProofs [rK,u1,hn]
 all_goals (repeat' split) <;> first | rfl | omega | (simp_all; done) | (simp_all; omega) | skip
end M
namespace M
open Go
theorem Iv (s : ah) (hb : s.length≤1073741824) : aK (ai (ev LI TT) (ak TT) nJ) [(0,.str ⟨s.toArray⟩),(3,.row .own 1 (([]).map eU)),(4,.int .i64 0)] = some (.exit 0,[(0,.str ⟨s.toArray⟩),(3,.row .own 1 ((((s).flatMap (fun b=>[ja b]))).map eU)),(4,.int .i64 (s).length),(10,.bool false)]):=by
 refine o6 (f:=ai (ev LI TT) (ak TT) nJ) (s) (fun b=>[ja b]) (fun i out=>[(0,.str ⟨s.toArray⟩),(3,.row .own 1 ((out).map eU)),(4,.int .i64 i)]) (fun out=>[(0,.str ⟨s.toArray⟩),(3,.row .own 1 ((out).map eU)),(4,.int .i64 (s).length),(10,.bool false)]) (fun i b out hi hl hout=>?_) (fun out hout=>?_)
 ·have hw:=aT i (by first | omega | (simp at hl; omega))
  obtain ⟨_,rfl⟩:=List.getElem?_eq_some_iff.1 hi
  have hlo : out.length = i:=by rw [hout]; exact u0 _ _ _ (by omega)
  have hx:=s[i].toNat_lt
  unfold ja
  by_cases h1 : 65≤(s[i]).toNat
  rotate_left
  ·have h1' : ¬ (65 : Int)≤(s[i]).toNat:=by omega
   simp -implicitDefEqProofs [nJ,tu,hl,hw,h1,h1',hlo,dN]
   omega
  by_cases h2 : (s[i]).toNat≤90
  rotate_left
  ·have h1' : (65 : Int)≤(s[i]).toNat:=by omega
   have fP : ¬ ((s[i]).toNat : Int)≤90:=by omega
   have zN : 90 < ((s[i]).toNat : Int):=by omega
   simp -implicitDefEqProofs [nJ,tu,hl,hw,h1,h1',h2,fP,zN,hlo,dN]
   omega
  have h1' : (65 : Int)≤(s[i]).toNat:=by omega
  have fP : ((s[i]).toNat : Int)≤90:=by omega
  have h3:=FY s[i] ⟨h1,h2⟩
  have h4 : IntKind.u8.wrap ((s[i]).toNat + 32) = (s[i]).toNat + 32:=Hs (by omega) (by omega)
  simp -implicitDefEqProofs [nJ,tu,hl,hw,h1,h1',h2,fP,hlo,dN,h3,h4]
  omega
 ·simp -implicitDefEqProofs [nJ,tu]
theorem KF (s : ah) (hb : s.length≤1073741824) : ev LI TT 254 [.str ⟨s.toArray⟩] = some (.str ⟨(bY s).toArray⟩,[.dead]):=by
 rw [az (b:=xw) (rs:=[.t 2]) (n:=1) rfl rfl]
 have hl : (bY s).length = s.length:=by simp [bY]
 have e : s.flatMap (fun b=>[ja b]) = bY s:=zE ja s
 have u1:=Iv  s hb
 try simp at u1
 simp -implicitDefEqProofs [xw,u1,e,hl,rowAt,(by omega : s.length≤9223372036854775807)]
 all_goals (repeat' split) <;> first | rfl | omega | (simp_all; done) | (simp_all; omega) | skip
theorem RZ (s : ah) (i : Nat) (h : i < s.length) (x : UInt8) (hx : x = ja s[i]) : (bY (s.take i) ++ s.drop i).set i x = bY (s.take (i + 1)) ++ s.drop (i + 1):=by
 subst hx
 rw [List.set_append_right _ _ (by simp [bY]; omega),List.drop_eq_getElem_cons h]
 have : i - (bY (s.take i)).length = 0:=by simp [bY]; omega
 rw [this,List.take_succ_eq_append_getElem h]
 simp only [List.set_cons_zero,bY,List.map_append,List.map_cons,List.map_nil,List.append_assoc,List.cons_append,List.nil_append]
theorem GJ (s : ah) (i : Nat) (h : i < s.length) (hx : ja s[i] = s[i]) : bY (s.take i) ++ s.drop i = bY (s.take (i + 1)) ++ s.drop (i + 1):=by
 rw [List.take_succ_eq_append_getElem h,List.drop_eq_getElem_cons h]
 simp only [bY,hx,List.map_append,List.map_cons,List.map_nil,List.append_assoc,List.cons_append,List.nil_append]
theorem LD (l : ah) (i : Nat) (x : Int) (b : UInt8) (hx : x = (b.toNat : Int)) : (l.map eU).modify i (fun e=>e.set 0 (X.int .u8 x)) = (l.set i b).map eU:=by
 subst hx
 apply List.ext_getElem?
 intro j
 rw [List.getElem?_modify,List.getElem?_map,List.getElem?_map,List.getElem?_set]
 by_cases h : i = j
 ·subst h
  by_cases h2 : i < l.length
  ·simp [h2]
  ·simp [h2,List.getElem?_eq_none (Nat.le_of_not_lt h2)]
 ·simp only [h,if_false]
  cases l[j]? <;> rfl
theorem HG (s : ah) (hb : s.length≤1073741824) : aK (ai (ev LI TT) (ak TT) ng) [(3,.row .own 1 ((bY (s.take 0) ++ s.drop 0).map eU)),(6,.str ⟨s.toArray⟩),(8,.ref 3 []),(9,.int .i64 s.length),(10,.int .i64 0)] = some (.exit 0,[(3,.row .own 1 ((bY s).map eU)),(6,.str ⟨s.toArray⟩),(8,.ref 3 []),(9,.int .i64 s.length),(10,.int .i64 (s).length),(11,.bool false)]):=by
 refine eP (f:=ai (ev LI TT) (ak TT) ng) (s) (fun i=>[(3,.row .own 1 ((bY (s.take i) ++ s.drop i).map eU)),(6,.str ⟨s.toArray⟩),(8,.ref 3 []),(9,.int .i64 s.length),(10,.int .i64 i)]) _ (fun i b hi hl=>?_) ?_
 ·have hw:=aT i (by first | omega | (simp at hl; omega))
  obtain ⟨_,rfl⟩:=List.getElem?_eq_some_iff.1 hi
  have hk : (bY (s.take i) ++ s.drop i).length = s.length:=by simp [bY]; omega
  have hx:=s[i].toNat_lt
  have hg : (bY (s.take i) ++ s.drop i)[i]? = some s[i]:=by rw [List.getElem?_append_right (by simp [bY]; omega)]; simp [bY,Nat.min_eq_left (Nat.le_of_lt hl)]
  have hg' : ∀ h,(bY (s.take i) ++ s.drop i)[i]'h = s[i]:=fun h=>by rw [List.getElem?_eq_getElem h] at hg; exact Option.some.inj hg
  generalize hq : bY (s.take i) ++ s.drop i = q at hk hg hg' ⊢
  have mT : i < q.length:=by omega
  by_cases h1 : 65≤(s[i]).toNat
  rotate_left
  ·have h1' : ¬ (65 : Int)≤(s[i]).toNat:=by omega
   have e:=GJ s i hl (by unfold ja; rw [if_neg (by omega)])
   rw [hq] at e
   simp -implicitDefEqProofs [ng,rJ,hl,hw,hg,hg',mT,h1',← e]
  by_cases h2 : (s[i]).toNat≤90
  rotate_left
  ·have h1' : (65 : Int)≤(s[i]).toNat:=by omega
   have zN : 90 < ((s[i]).toNat : Int):=by omega
   have fP : ¬ ((s[i]).toNat : Int)≤90:=by omega
   have e:=GJ s i hl (by unfold ja; rw [if_neg (by omega)])
   rw [hq] at e
   simp -implicitDefEqProofs [ng,rJ,hl,hw,hg,hg',mT,h1',fP,zN,← e]
  have h1' : (65 : Int)≤(s[i]).toNat:=by omega
  have fP : ((s[i]).toNat : Int)≤90:=by omega
  have h3:=FY s[i] ⟨h1,h2⟩
  have h4 : IntKind.u8.wrap ((s[i]).toNat + 32) = (s[i]).toNat + 32:=Hs (by omega) (by omega)
  have e:=RZ s i hl (s[i] + 32) (by unfold ja; rw [if_pos ⟨h1,h2⟩])
  rw [hq] at e
  have e2:=LD q i _ (s[i] + 32) (show ((s[i]).toNat : Int) + 32 = _ by rw [h3]; rfl)
  rw [e] at e2
  simp -implicitDefEqProofs [ng,rJ,hl,hw,hg,hg',mT,h1',fP,h4,e2]
  all_goals (repeat' split) <;> first | rfl | omega | (simp_all; done) | (simp_all; omega) | skip
 ·simp only [List.take_length,List.drop_length,List.append_nil]
  simp -implicitDefEqProofs [ng,rJ]
theorem Jw (s : ah) (hb : s.length≤1073741824) : ev LI TT 299 [.str ⟨s.toArray⟩] = some (.str ⟨(bY s).toArray⟩,[.dead]):=by
 rw [az (b:=vC) (rs:=[.t 2]) (n:=1) rfl rfl]
 have hl : (bY s).length = s.length:=by simp [bY]
 have e0 : bY (s.take 0) ++ s.drop 0 = s:=by simp [bY]
 have u1:=HG  s hb
 try simp at u1
 simp -implicitDefEqProofs [vC,u1,hl,rowAt,(by omega : s.length≤9223372036854775807)]
 all_goals (repeat' split) <;> first | rfl | omega | (simp_all; done) | (simp_all; omega) | skip
end M
namespace M
open Go
theorem Iw (n : Nat) (out : ah) (hn : out.length + n≤9223372036854775807) : aK (ai (ev LI TT) (ak TT) Ce) [(0,.int .i64 n),(3,.str ⟨out.toArray⟩)] = some (.exit 0,[(0,.int .i64 0),(3,.str ⟨(gA n out).toArray⟩),(10,.bool false)]):=by
 have hs : ∀ s,ai (ev LI TT) (ak TT) Ce s = ai (ev LI TT) (ak TT) xx s:=fun _=>rfl
 induction n using Nat.strongRecOn generalizing out with
 | ind n ih =>
  rw [gP,hs]
  unfold gA
  by_cases h : n = 0
  ·subst h
   simp -implicitDefEqProofs [xx]
  ·have hp : 0 < n:=by omega
   have:=ih (n / 10) (by omega) (UInt8.ofNat (48 + n % 10) :: out) (by rw [List.length_cons]; omega)
   have e1 : ((n : Int)).tmod 10 = ((n % 10 : Nat) : Int):=by rw [Int.tmod_eq_emod_of_nonneg (by omega)]; omega
   have e4 : ((n : Int)).tdiv 10 = ((n / 10 : Nat) : Int):=by rw [Int.tdiv_eq_ediv_of_nonneg (by omega)]; omega
   have e2 : IntKind.i64.wrap (48 + ((n % 10 : Nat) : Int)) = ((48 + n % 10 : Nat) : Int):=by rw [aO (by omega) (by omega)]; omega
   have e3 : IntKind.u8.wrap ((48 + n % 10 : Nat) : Int) = ((48 + n % 10 : Nat) : Int):=yC (by omega) (by omega)
   have e5:=CY (48 + n % 10) (by omega)
   have e6 : IntKind.i64.wrap ((n / 10 : Nat) : Int) = ((n / 10 : Nat) : Int):=aO (by omega) (by omega)
   simp only [h,dite_false]
   rw [← this]
   simp -implicitDefEqProofs [xx,hp,nA,e1,e2,e3,e4,e5,e6,-Int.natCast_emod,-Int.natCast_ediv,-Int.natCast_add,-UInt8.ofNat_add,iI,(by omega : 1 + out.length≤9223372036854775807)]
theorem KG (n : Int) : ev LI TT 189 [.int .i64 n] = some (.str ⟨(kG n).toArray⟩,[.dead]):=by
 rw [az (b:=pP) (rs:=[.t 2]) (n:=1) rfl rfl]
 unfold kG
 by_cases hn : 0≤n∧n≤1000000
 rotate_left
 ·have hf : (decide (0≤n) && decide (n≤1000000)) = false:=by simp; omega
  simp -implicitDefEqProofs [pP,hn,hf]
 obtain ⟨k,rfl⟩ : ∃ k : Nat,n = k:=⟨n.toNat,by omega⟩
 by_cases h : k = 0
 ·subst h; simp -implicitDefEqProofs [pP,Ei]
 have h1:=Iw k [] (by simp; omega)
 rw [FZ k [] h,List.append_nil] at h1
 simp -implicitDefEqProofs [pP,hn,h,h1]
 all_goals (repeat' split) <;> first | rfl | omega | (simp_all; done) | (simp_all; omega) | skip
theorem BM (n : Int) : (kG n).length≤7:=by
 unfold kG
 split
 ·exact zn _ (by omega)
 ·simp
end M
namespace M
open Go
def fG (w : ah) : List ah:=if dw w≠[] then [dw w] else []
theorem Re (s : ah) (i : Nat) (h : i < (s.map some ++ [none]).length) : (∃ hi : i < s.length,(s.map some ++ [none])[i] = some s[i])∨(i = s.length∧(s.map some ++ [none])[i] = none):=by
 by_cases hi : i < s.length
 ·refine .inl ⟨hi,?_⟩
  rw [List.getElem_append_left (by simpa using hi)]
  simp
 ·simp at h
  obtain rfl : i = s.length:=by omega
  refine .inr ⟨rfl,?_⟩
  rw [List.getElem_append_right (by simp)]
  simp
theorem GN (w : ah) : (fG w).length≤1:=by unfold fG; split <;> simp
theorem Ot (c : UInt8) (f : ah→List ah) (hf : ∀ w,(f w).length≤1) (s : ah) (i : Nat) (g : List ah×Nat) (b : Option UInt8) (h : g.2≤i∧g.1.length≤i) : (fm c f s i g b).2≤i + 1∧(fm c f s i g b).1.length≤i + 1:=by
 unfold fm
 have:=hf ((s.take i).drop g.2)
 split
 ·split
  ·simp; omega
  ·omega
 ·simp; omega
theorem IB (s : ah) (hb : s.length≤1073741824) (g : List ah×Nat) (hinv : g.2≤0∧g.1.length≤0) : aK (ai (ev LI TT) (ak TT) kO) [(0,.str ⟨s.toArray⟩),(3,.row .own 1 ((g).1.map eS)),(4,.int .i64 ((g).2 : Nat)),(5,.int .i64 0)] = some (.exit 0,[(0,.str ⟨s.toArray⟩),(3,.row .own 1 (((foldI (fm 44 fG s) 0 (s.map some ++ [none]) g)).1.map eS)),(4,.int .i64 (((foldI (fm 44 fG s) 0 (s.map some ++ [none]) g)).2 : Nat)),(5,.int .i64 (s.map some ++ [none]).length),(11,.bool false)]):=by
 refine o7 (f:=ai (ev LI TT) (ak TT) kO) (s.map some ++ [none]) (fun i (g : List ah×Nat)=>[(0,.str ⟨s.toArray⟩),(3,.row .own 1 ((g).1.map eS)),(4,.int .i64 ((g).2 : Nat)),(5,.int .i64 i)]) (fm 44 fG s) (fun g=>[(0,.str ⟨s.toArray⟩),(3,.row .own 1 ((g).1.map eS)),(4,.int .i64 ((g).2 : Nat)),(5,.int .i64 (s.map some ++ [none]).length),(11,.bool false)]) (fun i (g : List ah×Nat)=>g.2≤i∧g.1.length≤i) g hinv (fun i b g hi hl hinv=>?_) (fun i b g hi hinv=>?_) (fun g hinv=>?_)
 ·have hw:=aT i (by first | omega | (simp at hl; omega))
  obtain ⟨_,rfl⟩:=List.getElem?_eq_some_iff.1 hi
  have hlz : (g.1.length + 1) * 16≤140737488355328:=by simp at hl; omega
  have E9 : ∀ b : UInt8,((b.toNat : Int) = 44)↔b = 44:=fun b=>⟨fun h=>UInt8.toNat_inj.1 (by have e : (44 : UInt8).toNat = 44:=rfl; omega),fun h=>by subst h; rfl⟩
  rcases Re s i hl with ⟨hi',e⟩ | ⟨rfl,e⟩
  ·rw [e]
   have k1 : (i : Int)≤s.length:=by omega
   have k2 : i≤s.length:=by omega
   have hc:=zd ((s.drop g.2).take (i - g.2)) (by simp; omega)
   by_cases hx : s[i] = 44
   rotate_left
   ·have hx':=mt (E9 s[i]).1 hx
    simp -implicitDefEqProofs [kO,nM,k1,k2,hi',hw,fm,hx,hx']
   have hx':=(E9 s[i]).2 hx
   have e3 : (s.take i).drop g.2 = (s.drop g.2).take (i - g.2):=List.drop_take ..
   by_cases ht : dw ((s.drop g.2).take (i - g.2)) = []
   ·simp -implicitDefEqProofs [kO,nM,k1,k2,hi',hw,fm,eq_true hx,hx',hinv,hc,Lib.extract_mk,fG,e3,eq_true ht]
   ·simp -implicitDefEqProofs [kO,nM,k1,k2,hi',hw,fm,eq_true hx,hx',hinv,hc,Lib.extract_mk,fG,e3,eq_false ht,dN,hlz]
  rw [e]
  have hc:=zd ((s.drop g.2).take (s.length - g.2)) (by simp; omega)
  have e3 : (s.take s.length).drop g.2 = (s.drop g.2).take (s.length - g.2):=List.drop_take ..
  by_cases ht : dw ((s.drop g.2).take (s.length - g.2)) = []
  ·simp only [fm,e3,fG,eq_true ht]
   simp -implicitDefEqProofs [kO,nM,hw,hinv,hc,Lib.extract_mk,eq_true ht]
  simp only [fm,e3,fG,eq_false ht]
  simp -implicitDefEqProofs [kO,nM,hl,hw,hinv,hc,Lib.extract_mk,eq_false ht,dN,hlz]
 ·exact Ot 44 fG GN s i g b hinv
 ·have OX : ¬ ((s.length : Int) + 1≤s.length):=by omega
  simp -implicitDefEqProofs [kO,nM,OX]
theorem KK (s : ah) (hb : s.length≤1073741824) : ev LI TT 253 [.str ⟨s.toArray⟩] = some (.row .own 1 ((gE s).map eS),[.dead]):=by
 rw [az (b:=xy) (rs:=[.t 2]) (n:=1) rfl rfl]
 have u1:=IB s hb ([],0) ⟨by omega,by simp⟩
 rw [Oi,show (cg 44 s).flatMap fG = gE s from (Hp s).symm] at u1
 simp at u1
 simp -implicitDefEqProofs [xy,u1]
 all_goals (repeat' split) <;> first | rfl | omega | (simp_all; done) | (simp_all; omega) | skip
theorem HJ (s : ah) (ws : List ah) (hb : ∀ w∈ws,w.length≤1073741824) (hl0 : ws.length≤1073741825) : aK (ai (ev LI TT) (ak TT) oH) [(3,.row .own 1 (([]).map eS)),(8,.row .own 1 (ws.map eS)),(9,.int .i64 ws.length),(10,.int .i64 0)] = some (.exit 0,[(3,.row .own 1 ((((ws).flatMap fG)).map eS)),(8,.row .own 1 (ws.map eS)),(9,.int .i64 ws.length),(10,.int .i64 (ws).length),(11,.bool false)]):=by
 refine o6 (f:=ai (ev LI TT) (ak TT) oH) (ws) fG (fun i out=>[(3,.row .own 1 ((out).map eS)),(8,.row .own 1 (ws.map eS)),(9,.int .i64 ws.length),(10,.int .i64 i)]) (fun out=>[(3,.row .own 1 ((out).map eS)),(8,.row .own 1 (ws.map eS)),(9,.int .i64 ws.length),(10,.int .i64 (ws).length),(11,.bool false)]) (fun i b out hi hl hout=>?_) (fun out hout=>?_)
 ·have hw:=aT i (by first | omega | (simp at hl; omega))
  obtain ⟨_,rfl⟩:=List.getElem?_eq_some_iff.1 hi
  have hlo : out.length≤i:=by rw [hout]; exact EN fG GN ws i
  have hlz : (out.length + 1) * 16≤140737488355328:=by omega
  have hc:=Du ws[i] (by have:=hb _ (List.getElem_mem hl); omega)
  unfold fG
  by_cases ht : dw ws[i] = []
  ·simp -implicitDefEqProofs [oH,vG,hl,hw,hc,eq_true ht]
  simp -implicitDefEqProofs [oH,vG,hl,hw,hc,eq_false ht,dN,hlz]
 ·simp -implicitDefEqProofs [oH,vG]
theorem JG (s : ah) (hb : s.length≤1073741824) : ev LI TT 297 [.str ⟨s.toArray⟩] = some (.row .own 1 ((gE s).map eS),[.dead]):=by
 rw [az (b:=vH) (rs:=[.t 2]) (n:=1) rfl rfl]
 rw [Hp s,show (fun w=>if dw w≠[] then [dw w] else []) = fG from rfl]
 have u1:=K4  s 44 (by omega)
 try simp at u1
 have u2:=HJ  s (cg 44 s) (fun w hw=>by have:=GQ 44 s w hw; omega) (by have:=GP 44 s; omega)
 try simp at u2
 simp -implicitDefEqProofs [vH,u1,u2]
 all_goals (repeat' split) <;> first | rfl | omega | (simp_all; done) | (simp_all; omega) | skip
theorem IQ (l : List ah) (hl0 : l.length≤1073741824) (hb : ∀ w∈l,w.length≤1073741824) : aK (ai (ev LI TT) (ak TT) tU) [(0,.row .af 1 (l.map eS)),(3,.int .i64 0)] = if aS ei (l) = true then some (.exit 0,[(0,.row .af 1 (l.map eS)),(3,.int .i64 (l).length),(7,.bool false)]) else some (.ret,[(2,.bool false)]):=by
 refine cN (f:=ai (ev LI TT) (ak TT) tU) (l) (fun i=>[(0,.row .af 1 (l.map eS)),(3,.int .i64 i)]) ei _ _ (fun i b hi hl=>?_) ?_
 ·have hw:=aT i (by first | omega | (simp at hl; omega))
  obtain ⟨_,rfl⟩:=List.getElem?_eq_some_iff.1 hi
  have u1:=zc  l[i] (by have:=hb _ (List.getElem_mem hl); omega)
  try simp at u1
  simp -implicitDefEqProofs [tU,CK,hl,hw,u1]
  all_goals (repeat' split) <;> first | rfl | omega | (simp_all; done) | (simp_all; omega) | skip
 ·simp -implicitDefEqProofs [tU,CK]
theorem KS (l : List ah) (hl0 : l.length≤1073741824) (hb : ∀ w∈l,w.length≤1073741824) : ev LI TT 202 [.row .af 1 (l.map eS)] = some (.bool ((aS ei l && decide ((l.length : Int)≤4))),[.dead]):=by
 rw [az (b:=xZ) (rs:=[.t 2]) (n:=1) rfl rfl]
 have u1:=IQ  l hl0 hb
 try simp at u1
 simp -implicitDefEqProofs [xZ,u1]
 all_goals (repeat' split) <;> first | rfl | omega | (simp_all; done) | (simp_all; omega) | skip
theorem HP (l : List ah) (hl0 : l.length≤1073741824) (hb : ∀ w∈l,w.length≤1073741824) : aK (ai (ev LI TT) (ak TT) rT) [(0,.row .af 1 (l.map eS)),(5,.row .af 1 (l.map eS)),(6,.int .i64 l.length),(7,.int .i64 0)] = if aS ei (l) = true then some (.exit 0,[(0,.row .af 1 (l.map eS)),(5,.row .af 1 (l.map eS)),(6,.int .i64 l.length),(7,.int .i64 (l).length),(8,.bool false)]) else some (.ret,[(2,.bool false)]):=by
 refine cN (f:=ai (ev LI TT) (ak TT) rT) (l) (fun i=>[(0,.row .af 1 (l.map eS)),(5,.row .af 1 (l.map eS)),(6,.int .i64 l.length),(7,.int .i64 i)]) ei _ _ (fun i b hi hl=>?_) ?_
 ·have hw:=aT i (by first | omega | (simp at hl; omega))
  obtain ⟨_,rfl⟩:=List.getElem?_eq_some_iff.1 hi
  have u1:=yX  l[i] (by have:=hb _ (List.getElem_mem hl); omega)
  try simp at u1
  simp -implicitDefEqProofs [rT,AB,hl,hw,u1]
  all_goals (repeat' split) <;> first | rfl | omega | (simp_all; done) | (simp_all; omega) | skip
 ·simp -implicitDefEqProofs [rT,AB]
theorem JQ (l : List ah) (hl0 : l.length≤1073741824) (hb : ∀ w∈l,w.length≤1073741824) : ev LI TT 271 [.row .af 1 (l.map eS)] = some (.bool ((aS ei l && decide ((l.length : Int)≤4))),[.dead]):=by
 rw [az (b:=vZ) (rs:=[.t 2]) (n:=1) rfl rfl]
 have u1:=HP  l hl0 hb
 try simp at u1
 simp -implicitDefEqProofs [vZ,u1]
 all_goals (repeat' split) <;> first | rfl | omega | (simp_all; done) | (simp_all; omega) | skip
end M
namespace M
open Go
theorem IL (fs : List aP) (n : ah) (hb : fs.length≤9223372036854775807) : aK (ai (ev LI TT) (ak TT) tR) [(0,.row .af 2 (fs.map aL)),(1,.str ⟨n.toArray⟩),(5,.int .i64 0)] = (cA (fun f=>decide (f.name = n)) 0 (fs)).elim (some (.exit 0,[(0,.row .af 2 (fs.map aL)),(1,.str ⟨n.toArray⟩),(5,.int .i64 (fs).length),(9,.bool false)])) fun x=>some (.ret,(fun (i : Nat) b=>[(4,.int .i64 i)]) x.1 x.2):=by
 refine sP (f:=ai (ev LI TT) (ak TT) tR) (fs) (fun i=>[(0,.row .af 2 (fs.map aL)),(1,.str ⟨n.toArray⟩),(5,.int .i64 i)]) (fun f=>decide (f.name = n)) (fun (i : Nat) b=>[(4,.int .i64 i)]) _ (fun i b hi hl=>?_) ?_
 ·have hw:=aT i (by first | omega | (simp at hl; omega))
  obtain ⟨_,rfl⟩:=List.getElem?_eq_some_iff.1 hi
  simp -implicitDefEqProofs [tR,CI,hl,hw]
 ·simp -implicitDefEqProofs [tR,CI]
theorem DL (fs : List aP) (n : ah) (hb : fs.length≤9223372036854775807) : ev LI TT 252 [.row .af 2 (fs.map aL),.str ⟨n.toArray⟩] = some (.int .i64 (fY (fJ fs n)),[.dead,.dead]):=by
 rw [az (b:=tS) (rs:=[.t 4]) (n:=2) rfl rfl]
 have h:=IL  fs n hb
 rw [show cA (fun f=>decide (f.name = n)) 0 fs = fJ fs n from rfl] at h
 simp at h
 cases g : fJ fs n with
 | none=>rw [g] at h; simp at h; simp -implicitDefEqProofs [tS,h,fY]
 | some x =>
 rw [g] at h
 simp at h
 simp -implicitDefEqProofs [tS,h,fY]
 all_goals (repeat' split) <;> first | rfl | omega | (simp_all; done) | (simp_all; omega) | skip
theorem DH (fs : List aP) (n : ah) (hb : fs.length≤9223372036854775807) : ev LI TT 162 [.row .af 2 (fs.map aL),.str ⟨n.toArray⟩] = some (.au [.str ⟨((cP fs n).getD []).toArray⟩,.bool (cP fs n).isSome],[.dead,.dead]):=by
 rw [az (b:=tn) (rs:=[.t 4,.t 5]) (n:=2) rfl rfl]
 have h:=DL  fs n hb
 unfold cP
 cases g : fJ fs n with
 | none=>rw [g] at h; simp [fY] at h; simp -implicitDefEqProofs [tn,h]
 | some x =>
 obtain ⟨i,b⟩:=x
 rw [g] at h
 obtain ⟨h1,h2,h3⟩:=mN g
 simp at h2
 simp [fY] at h
 have hi : i < fs.length:=(List.getElem?_eq_some_iff.1 h2).1
 obtain ⟨_,rfl⟩:=List.getElem?_eq_some_iff.1 h2
 simp -implicitDefEqProofs [tn,h,hi]
 all_goals (repeat' split) <;> first | rfl | omega | (simp_all; done) | (simp_all; omega) | skip
theorem JP (f : aP) (n : ah) : ev LI TT 321 [.agg (aL f),.ptr .af [.str ⟨n.toArray⟩]] = some (.bool (decide (f.name = n)),[.dead,.dead]):=by
 rw [az (b:=vT) (rs:=[.t 3]) (n:=2) rfl rfl]
 simp -implicitDefEqProofs [vT]
 all_goals (repeat' split) <;> first | rfl | omega | (simp_all; done) | (simp_all; omega) | skip
theorem IV (fs : List aP) (n : ah) (hb : fs.length≤9223372036854775807) : aK (ai (ev LI TT) (ak TT) uk) [(0,.row .af 2 (fs.map aL)),(1,.fn 321 [.ptr .af [.str ⟨n.toArray⟩]]),(7,.int .i64 fs.length),(8,.int .i64 0)] = (cA (fun f=>decide (f.name = n)) 0 (fs)).elim (some (.exit 0,[(0,.row .af 2 (fs.map aL)),(1,.fn 321 [.ptr .af [.str ⟨n.toArray⟩]]),(7,.int .i64 fs.length),(8,.int .i64 (fs).length),(9,.bool false)])) fun x=>some (.ret,(fun (i : Nat) b=>[(4,.int .i64 i)]) x.1 x.2):=by
 refine sP (f:=ai (ev LI TT) (ak TT) uk) (fs) (fun i=>[(0,.row .af 2 (fs.map aL)),(1,.fn 321 [.ptr .af [.str ⟨n.toArray⟩]]),(7,.int .i64 fs.length),(8,.int .i64 i)]) (fun f=>decide (f.name = n)) (fun (i : Nat) b=>[(4,.int .i64 i)]) _ (fun i b hi hl=>?_) ?_
 ·have hw:=aT i (by first | omega | (simp at hl; omega))
  obtain ⟨_,rfl⟩:=List.getElem?_eq_some_iff.1 hi
  have ho : ak TT 321 = true:=rfl
  have hf:=JP  fs[i] n
  simp at hf
  simp -implicitDefEqProofs [uk,C5,hl,hw,ho,nq,hf]
 ·simp -implicitDefEqProofs [uk,C5]
theorem K0 (fs : List aP) (n : ah) (hb : fs.length≤9223372036854775807) : ev LI TT 320 [.row .af 2 (fs.map aL),.fn 321 [.ptr .af [.str ⟨n.toArray⟩]]] = some (.int .i64 (fY (fJ fs n)),[.dead,.dead]):=by
 rw [az (b:=um) (rs:=[.t 4]) (n:=2) rfl rfl]
 have h:=IV  fs n hb
 rw [show cA (fun f=>decide (f.name = n)) 0 fs = fJ fs n from rfl] at h
 simp at h
 cases g : fJ fs n with
 | none=>rw [g] at h; simp at h; simp -implicitDefEqProofs [um,h,fY]
 | some x =>
 rw [g] at h
 simp at h
 simp -implicitDefEqProofs [um,h,fY]
 all_goals (repeat' split) <;> first | rfl | omega | (simp_all; done) | (simp_all; omega) | skip
theorem Dw (fs : List aP) (n : ah) (hb : fs.length≤9223372036854775807) : ev LI TT 296 [.row .af 2 (fs.map aL),.str ⟨n.toArray⟩] = some (.int .i64 (fY (fJ fs n)),[.dead,.dead]):=by
 rw [az (b:=vU) (rs:=[.t 4]) (n:=2) rfl rfl]
 have h:=K0  fs n hb
 simp -implicitDefEqProofs [vU,h,gC,eg]
 all_goals (repeat' split) <;> first | rfl | omega | (simp_all; done) | (simp_all; omega) | skip
theorem Ds (fs : List aP) (n : ah) (hb : fs.length≤9223372036854775807) : ev LI TT 234 [.row .af 2 (fs.map aL),.str ⟨n.toArray⟩] = some (.au [.str ⟨((cP fs n).getD []).toArray⟩,.bool (cP fs n).isSome],[.dead,.dead]):=by
 rw [az (b:=rH) (rs:=[.t 4,.t 5]) (n:=2) rfl rfl]
 have h:=Dw  fs n hb
 unfold cP
 cases g : fJ fs n with
 | none=>rw [g] at h; simp [fY] at h; simp -implicitDefEqProofs [rH,h]
 | some x =>
 obtain ⟨i,b⟩:=x
 rw [g] at h
 obtain ⟨h1,h2,h3⟩:=mN g
 simp at h2
 simp [fY] at h
 have hi : i < fs.length:=(List.getElem?_eq_some_iff.1 h2).1
 obtain ⟨_,rfl⟩:=List.getElem?_eq_some_iff.1 h2
 simp -implicitDefEqProofs [rH,h,hi]
 all_goals (repeat' split) <;> first | rfl | omega | (simp_all; done) | (simp_all; omega) | skip
end M
namespace M
open Go
theorem sW : (⟨#[99,111,110,116,101,110,116,45,108,101,110,103,116,104]⟩ : ByteArray) = ⟨pF.toArray⟩:=rfl
theorem Is (fs : List aP) (hb : wL aU fs≤1073741824) : aK (ai (ev LI TT) (ak TT) kN) [(0,.row .af 2 (fs.map aL)),(3,.int .i64 0)] = if aS (fN fs) (fs.zipIdx) = true then some (.exit 0,[(0,.row .af 2 (fs.map aL)),(3,.int .i64 (fs.zipIdx).length),(7,.bool false)]) else some (.ret,[(2,.bool false)]):=by
 refine cN (f:=ai (ev LI TT) (ak TT) kN) (fs.zipIdx) (fun i=>[(0,.row .af 2 (fs.map aL)),(3,.int .i64 i)]) (fN fs) _ _ (fun i b hi hl=>?_) ?_
 ·have hw:=aT i (by have:=br (w:=aU) fs; simp at hl; omega)
  obtain ⟨_,rfl⟩:=List.getElem?_eq_some_iff.1 hi
  simp only [List.length_zipIdx] at hl
  have hz : fs.zipIdx[i]'(by simpa using hl) = (fs[i],i):=by simp
  have hm:=C0 (List.getElem_mem hl)
  have hfl:=br (w:=aU) fs
  rw [hz]
  have u1:=zc  fs[i].name (by omega)
  try simp at u1
  have u2:=ze  fs[i].value (by omega)
  try simp at u2
  have u3:=DL  fs fs[i].name (by omega)
  try simp at u3
  by_cases g1 : ei fs[i].name = true
  rotate_left
  ·simp -implicitDefEqProofs [kN,nI,hl,hw,u1,u2,u3,fN,g1]
  by_cases g2 : fW fs[i].value = true
  rotate_left
  ·simp -implicitDefEqProofs [kN,nI,hl,hw,u1,u2,u3,fN,g1,g2]
  by_cases g3 : fY (fJ fs fs[i].name) = i
  rotate_left
  ·simp -implicitDefEqProofs [kN,nI,hl,hw,u1,u2,u3,fN,g1,g2,eq_false g3]
  by_cases hcl : fs[i].name = pF
  ·simp -implicitDefEqProofs [kN,nI,hl,hw,u1,u2,u3,g1,g2,eq_true g3,fN,sW,eq_true hcl]
  simp -implicitDefEqProofs [kN,nI,hl,hw,u1,u2,u3,fN,g1,g2,eq_true g3,sW,eq_false hcl]
  all_goals (repeat' split) <;> first | rfl | omega | (simp_all; done) | (simp_all; omega) | skip
 ·simp -implicitDefEqProofs [kN,nI]
theorem KC (fs : List aP) (hb : wL aU fs≤1073741824) : ev LI TT 161 [.row .af 2 (fs.map aL)] = some (.bool ((mL fs)),[.dead]):=by
 rw [az (b:=xp) (rs:=[.t 2]) (n:=1) rfl rfl]
 unfold mL
 have hfl:=br (w:=aU) fs
 have u1:=Is  fs hb
 try simp at u1
 simp -implicitDefEqProofs [xp,u1]
 all_goals (repeat' split) <;> first | rfl | omega | (simp_all; done) | (simp_all; omega) | skip
theorem HE (fs : List aP) (hb : wL aU fs≤1073741824) : aK (ai (ev LI TT) (ak TT) kz) [(0,.row .af 2 (fs.map aL)),(5,.row .af 2 (fs.map aL)),(6,.int .i64 fs.length),(7,.int .i64 0)] = if aS (fN fs) (fs.zipIdx) = true then some (.exit 0,[(0,.row .af 2 (fs.map aL)),(5,.row .af 2 (fs.map aL)),(6,.int .i64 fs.length),(7,.int .i64 (fs.zipIdx).length),(8,.bool false)]) else some (.ret,[(2,.bool false)]):=by
 refine cN (f:=ai (ev LI TT) (ak TT) kz) (fs.zipIdx) (fun i=>[(0,.row .af 2 (fs.map aL)),(5,.row .af 2 (fs.map aL)),(6,.int .i64 fs.length),(7,.int .i64 i)]) (fN fs) _ _ (fun i b hi hl=>?_) ?_
 ·have hw:=aT i (by have:=br (w:=aU) fs; simp at hl; omega)
  obtain ⟨_,rfl⟩:=List.getElem?_eq_some_iff.1 hi
  simp only [List.length_zipIdx] at hl
  have hz : fs.zipIdx[i]'(by simpa using hl) = (fs[i],i):=by simp
  have hm:=C0 (List.getElem_mem hl)
  have hfl:=br (w:=aU) fs
  rw [hz]
  have u1:=yX  fs[i].name (by omega)
  try simp at u1
  have u2:=yY  fs[i].value (by omega)
  try simp at u2
  have u3:=Dw  fs fs[i].name (by omega)
  try simp at u3
  by_cases g1 : ei fs[i].name = true
  rotate_left
  ·simp -implicitDefEqProofs [kz,mZ,hl,hw,u1,u2,u3,fN,g1]
  by_cases g2 : fW fs[i].value = true
  rotate_left
  ·simp -implicitDefEqProofs [kz,mZ,hl,hw,u1,u2,u3,fN,g1,g2]
  by_cases hcl : fs[i].name = pF
  ·simp -implicitDefEqProofs [kz,mZ,hl,hw,u1,u2,u3,g1,g2,fN,sW,eq_true hcl]
  by_cases g3 : fY (fJ fs fs[i].name) = i
  rotate_left
  ·simp -implicitDefEqProofs [kz,mZ,hl,hw,u1,u2,u3,g1,g2,fN,sW,eq_false hcl,eq_false g3]
  simp -implicitDefEqProofs [kz,mZ,hl,hw,u1,u2,u3,fN,g1,g2,sW,eq_false hcl,eq_true g3]
  all_goals (repeat' split) <;> first | rfl | omega | (simp_all; done) | (simp_all; omega) | skip
 ·simp -implicitDefEqProofs [kz,mZ]
theorem Jt (fs : List aP) (hb : wL aU fs≤1073741824) : ev LI TT 294 [.row .af 2 (fs.map aL)] = some (.bool ((mL fs)),[.dead]):=by
 rw [az (b:=vA) (rs:=[.t 2]) (n:=1) rfl rfl]
 unfold mL
 have hfl:=br (w:=aU) fs
 have u1:=HE  fs hb
 try simp at u1
 simp -implicitDefEqProofs [vA,u1]
 all_goals (repeat' split) <;> first | rfl | omega | (simp_all; done) | (simp_all; omega) | skip
theorem LV (fs : List aP) : cF (fs.map aL) = true:=by induction fs <;> simp_all [cF,scalar]
theorem KI (r : cz) (hb : ct r≤1073741824) : ev LI TT 201 [.agg (fk .af r)] = some (.bool ((kL r)),[.dead]):=by
 rw [az (b:=nK) (rs:=[.t 2]) (n:=1) rfl rfl]
 have hw : ct r = wL aU r.fields + r.body.length:=rfl
 unfold kL
 have u1:=KC  r.fields (by omega)
 try simp at u1
 by_cases g1 : 100≤r.status
 rotate_left
 ·simp -implicitDefEqProofs [nK,u1,eq_false g1]
 by_cases g2 : r.status≤599
 rotate_left
 ·simp -implicitDefEqProofs [nK,u1,eq_true g1,eq_false g2]
 by_cases g3 : mL r.fields = true
 rotate_left
 ·simp -implicitDefEqProofs [nK,u1,eq_true g1,eq_true g2,g3]
 simp -implicitDefEqProofs [nK,u1,eq_true g1,eq_true g2,g3]
 all_goals (repeat' split) <;> first | rfl | omega | (simp_all; done) | (simp_all; omega) | skip
theorem Jz (r : cz) (hb : ct r≤1073741824) : ev LI TT 251 [.agg (fk .af r)] = some (.bool ((kL r)),[.dead]):=by
 rw [az (b:=nh) (rs:=[.t 2]) (n:=1) rfl rfl]
 have hw : ct r = wL aU r.fields + r.body.length:=rfl
 unfold kL
 have u1:=Jt  r.fields (by omega)
 try simp at u1
 by_cases g1 : 100≤r.status
 rotate_left
 ·simp -implicitDefEqProofs [nh,u1,eq_false g1]
 by_cases g2 : r.status≤599
 rotate_left
 ·simp -implicitDefEqProofs [nh,u1,eq_true g1,eq_false g2]
 by_cases g3 : (r.body.length : Int)≤120
 rotate_left
 ·simp -implicitDefEqProofs [nh,u1,eq_true g1,eq_true g2,eq_false g3]
 simp -implicitDefEqProofs [nh,u1,eq_true g1,eq_true g2,eq_true g3]
 all_goals (repeat' split) <;> first | rfl | omega | (simp_all; done) | (simp_all; omega) | skip
theorem KR (fs : List aP) (hb : fs.length≤1073741824) : ev LI TT 258 [.row .af 2 (fs.map aL)] = some (.row .own 2 (fs.map aL),[.dead]):=by
 rw [az (b:=xY) (rs:=[.t 2]) (n:=1) rfl rfl]
 simp -implicitDefEqProofs [xY,LV fs,rowAt,(by omega : fs.length * 32≤140737488355328)]
 all_goals (repeat' split) <;> first | rfl | omega | (simp_all; done) | (simp_all; omega) | skip
theorem KT (r : cz) (hb : r.fields.length≤1073741824) : ev LI TT 177 [.agg (fk .af r)] = some (.agg (fk .own r),[.dead]):=by
 rw [az (b:=x7) (rs:=[.c 2 3 true 59]) (n:=1) rfl rfl]
 have u1:=KR  r.fields hb
 try simp at u1
 simp -implicitDefEqProofs [x7,u1]
 all_goals (repeat' split) <;> first | rfl | omega | (simp_all; done) | (simp_all; omega) | skip
theorem JN (r : cz) (hb : r.fields.length≤1073741824) : ev LI TT 246 [.agg (fk .af r)] = some (.agg (fk .own r),[.dead]):=by
 rw [az (b:=vR) (rs:=[.c 2 3 true 59]) (n:=1) rfl rfl]
 have u1:=PY r.fields hb
 try simp at u1
 simp -implicitDefEqProofs [vR,u1]
 all_goals (repeat' split) <;> first | rfl | omega | (simp_all; done) | (simp_all; omega) | skip
end M
namespace M
open Go
theorem C3 (s : ah) : (gE s).length≤s.length + 1:=by
 unfold gE
 have h1:=List.length_filter_le (fun w : ah=>decide (w≠[])) ((cg 44 s).map dw)
 have h2:=GP 44 s
 simp only [List.length_map] at h1
 omega
theorem Hq (s : ah) : ∀ w∈gE s,w.length≤s.length:=by
 intro w hw
 unfold gE at hw
 obtain ⟨x,hx,rfl⟩:=List.mem_map.1 (List.mem_filter.1 hw).1
 have h1:=GQ 44 s x hx
 have h2:=He x
 omega
theorem II (ws : List ah) (hl0 : ws.length≤1073741825) (hb : ∀ w∈ws,w.length≤1073741824) : aK (ai (ev LI TT) (ak TT) tG) [(5,.row .own 1 ((fD bY ws 0).map eS)),(6,.int .i64 0)] = some (.exit 0,[(5,.row .own 1 ((fD bY ws (ws).length).map eS)),(6,.int .i64 (ws).length),(17,.bool false)]):=by
 refine eP (f:=ai (ev LI TT) (ak TT) tG) (ws) (fun i=>[(5,.row .own 1 ((fD bY ws i).map eS)),(6,.int .i64 i)]) _ (fun i b hi hl=>?_) ?_
 ·have hw:=aT i (by first | omega | (simp at hl; omega))
  obtain ⟨_,rfl⟩:=List.getElem?_eq_some_iff.1 hi
  have h1:=P9 bY ws i hl
  have h2:=Qa bY ws i hl
  have u1:=KF  ws[i] (hb _ (List.getElem_mem hl))
  try simp at u1
  simp -implicitDefEqProofs [tG,Cn,hl,hw,u1,h1,h2,rowAt,-List.map_set]
 ·simp -implicitDefEqProofs [tG,Cn,rowAt]
theorem KM (fs : List aP) (hb : wL aU fs≤1073741824) : ev LI TT 203 [.row .af 2 (fs.map aL)] = some (.row .own 1 ((jl fs).map eS),[.dead]):=by
 rw [az (b:=xD) (rs:=[.t 2]) (n:=1) rfl rfl]
 have hfl:=br (w:=aU) fs
 have hg:=zM fs fU
 have u1:=DH  fs fU (by omega)
 try simp at u1
 have u2:=KK  ((cP fs fU).getD []) (by omega)
 try simp at u2
 have u3:=II  (gE ((cP fs fU).getD [])) (by have:=C3 ((cP fs fU).getD []); omega) (fun w hw=>by have:=Hq _ w hw; omega)
 try simp at u3
 rw [Qb,P7,show (gE ((cP fs fU).getD [])).map bY = jl fs from rfl] at u3
 simp -implicitDefEqProofs [xD,u1,u2,u3]
 all_goals (repeat' split) <;> first | rfl | omega | (simp_all; done) | (simp_all; omega) | skip
theorem HM (ws : List ah) (hl0 : ws.length≤1073741825) (hb : ∀ w∈ws,w.length≤1073741824) : aK (ai (ev LI TT) (ak TT) rQ) [(5,.row .own 1 (([]).map eS)),(14,.row .own 1 (ws.map eS)),(15,.int .i64 ws.length),(16,.int .i64 0)] = some (.exit 0,[(5,.row .own 1 ((((ws).flatMap (fun w=>[bY w]))).map eS)),(14,.row .own 1 (ws.map eS)),(15,.int .i64 ws.length),(16,.int .i64 (ws).length),(17,.bool false)]):=by
 refine o6 (f:=ai (ev LI TT) (ak TT) rQ) (ws) (fun w=>[bY w]) (fun i out=>[(5,.row .own 1 ((out).map eS)),(14,.row .own 1 (ws.map eS)),(15,.int .i64 ws.length),(16,.int .i64 i)]) (fun out=>[(5,.row .own 1 ((out).map eS)),(14,.row .own 1 (ws.map eS)),(15,.int .i64 ws.length),(16,.int .i64 (ws).length),(17,.bool false)]) (fun i b out hi hl hout=>?_) (fun out hout=>?_)
 ·have hw:=aT i (by first | omega | (simp at hl; omega))
  obtain ⟨_,rfl⟩:=List.getElem?_eq_some_iff.1 hi
  have hlo : out.length = i:=by rw [hout]; exact u0 _ _ _ (by omega)
  have hlz : (i + 1) * 16≤140737488355328:=by omega
  have u1:=Jw  ws[i] (hb _ (List.getElem_mem hl))
  try simp at u1
  simp -implicitDefEqProofs [rQ,Ay,hl,hw,u1,hlo,hlz,dN]
 ·simp -implicitDefEqProofs [rQ,Ay]
theorem JI (fs : List aP) (hb : wL aU fs≤1073741824) : ev LI TT 272 [.row .af 2 (fs.map aL)] = some (.row .own 1 ((jl fs).map eS),[.dead]):=by
 rw [az (b:=vL) (rs:=[.t 2]) (n:=1) rfl rfl]
 have hfl:=br (w:=aU) fs
 have hg:=zM fs fU
 have u1:=Ds  fs fU (by omega)
 try simp at u1
 have u2:=JG  ((cP fs fU).getD []) (by omega)
 try simp at u2
 have u3:=HM  (gE ((cP fs fU).getD [])) (by have:=C3 ((cP fs fU).getD []); omega) (fun w hw=>by have:=Hq _ w hw; omega)
 try simp at u3
 rw [zE,show (gE ((cP fs fU).getD [])).map bY = jl fs from rfl] at u3
 simp -implicitDefEqProofs [vL,u1,u2,u3]
 all_goals (repeat' split) <;> first | rfl | omega | (simp_all; done) | (simp_all; omega) | skip
theorem Ho (fs : List aP) : (jl fs).length≤wL aU fs + 1:=by
 have h1:=C3 ((cP fs fU).getD [])
 have h2:=zM fs fU
 simp [jl]; omega
end M
namespace M
open Go
theorem IU (ps : List (ah×ah)) (hb : ps.length≤9223372036854775807) : aK (ai (ev LI TT) (ak TT) uj) [(0,.row .af 1 (ps.map fun x=>eS x.1)),(1,.row .af 1 (ps.map fun x=>eS x.2)),(12,.int .i64 ps.length),(13,.int .i64 0)] = if aS cL (ps) = true then some (.exit 0,[(0,.row .af 1 (ps.map fun x=>eS x.1)),(1,.row .af 1 (ps.map fun x=>eS x.2)),(12,.int .i64 ps.length),(13,.int .i64 ps.length),(14,.bool false)]) else some (.ret,[(4,.bool false)]):=by
 refine cN (f:=ai (ev LI TT) (ak TT) uj) (ps) (fun i=>[(0,.row .af 1 (ps.map fun x=>eS x.1)),(1,.row .af 1 (ps.map fun x=>eS x.2)),(12,.int .i64 ps.length),(13,.int .i64 i)]) cL _ _ (fun i b hi hl=>?_) ?_
 ·have hw:=aT i (by first | omega | (simp at hl; omega))
  obtain ⟨_,rfl⟩:=List.getElem?_eq_some_iff.1 hi
  simp -implicitDefEqProofs [uj,C4,hl,hw,cL]
  first | done | (split <;> simp_all)
 ·simp -implicitDefEqProofs [uj,C4]
theorem KZ (a b : List ah) (hb : a.length≤9223372036854775807) : ev LI TT 243 [.row .af 1 (a.map eS),.row .af 1 (b.map eS)] = some (.bool (decide (a = b)),[.dead,.dead]):=by
 rw [az (b:=yF) (rs:=[.t 4]) (n:=2) rfl rfl]
 simp -implicitDefEqProofs [yF]
 by_cases h : a.length = b.length
 ·obtain ⟨ps,rfl,rfl⟩:=nW h
  have h1:=IU  ps (by simpa using hb)
  have h2:=mA ps
  simp at h1
  cases h3 : aS cL ps <;> rw [h3] at h1 h2 <;> simp [h1,Function.comp_def,← h2]
 ·have : ¬ a = b:=fun e=>h (by rw [e])
  simp [this]
  omega
theorem Hw : ∀ {a b : List ah},(∀ x∈a.zip b,¬ (decide (x.1≠x.2)) = true)→a.length = b.length→a = b
 | [],[],_,_=>rfl
 | x :: a,y :: b,h,hl=>by
  have h1:=h (x,y) (by simp)
  simp at h1
  have h2 : a = b:=Hw (fun z hz=>h z (by simp only [List.zip_cons_cons]; exact List.mem_cons_of_mem _ hz)) (by simpa using hl)
  rw [h1,h2]
theorem U8 {a b : List ah} {x : ah×ah} (hx : x∈a.zip b) (h : x.1≠x.2) : a≠b:=by
 rintro rfl
 have : ∀ {l : List ah} {x : ah×ah},x∈l.zip l→x.1 = x.2:=by
  intro l
  induction l with
  | nil=>intro x h; simp at h
  | cons y l ih =>
   intro x h
   simp only [List.zip_cons_cons,List.mem_cons] at h
   rcases h with rfl | h
   ·rfl
   ·exact ih h
 exact h (this hx)
theorem IP (a b : List ah) (hb : a.length≤9223372036854775807) (jv : b.length≤9223372036854775807) : aK (ai (ev LI TT) (ak TT) pS) [(0,.row .af 1 (a.map eS)),(1,.row .af 1 (b.map eS)),(5,.int .i64 0)] = (cA (fun x=>decide (x.1≠x.2)) 0 (a.zip b)).elim (some (.exit 0,[(0,.row .af 1 (a.map eS)),(1,.row .af 1 (b.map eS)),(5,.int .i64 (a.zip b).length),(15,.bool false)])) fun x=>some (.ret,(fun (i : Nat) b=>[(4,.bool false)]) x.1 x.2):=by
 refine sP (f:=ai (ev LI TT) (ak TT) pS) (a.zip b) (fun i=>[(0,.row .af 1 (a.map eS)),(1,.row .af 1 (b.map eS)),(5,.int .i64 i)]) (fun x=>decide (x.1≠x.2)) (fun (i : Nat) b=>[(4,.bool false)]) _ (fun i b hi hl=>?_) ?_
 ·have hw:=aT i (by first | omega | (simp at hl; omega))
  obtain ⟨_,rfl⟩:=List.getElem?_eq_some_iff.1 hi
  have ha : i < a.length:=by simp at hl; omega
  have hb' : i < b.length:=by simp at hl; omega
  simp -implicitDefEqProofs [pS,xX,hl,hw,ha,hb']
 ·have hz : (a.zip b).length = min a.length b.length:=by simp
  rw [hz]
  by_cases hh : a.length≤b.length
  ·rw [Nat.min_eq_left hh]; simp -implicitDefEqProofs [pS,xX]
  have h1 : b.length≤a.length:=by omega
  have h2 : (b.length : Int) < a.length:=by omega
  have h3 : b.length < a.length:=by omega
  rw [Nat.min_eq_right h1]
  simp -implicitDefEqProofs [pS,xX,h2,h3]
theorem KQ (a b : List ah) (hb : a.length≤9223372036854775807) (jv : b.length≤9223372036854775807) : ev LI TT 175 [.row .af 1 (a.map eS),.row .af 1 (b.map eS)] = some (.bool (decide (a = b)),[.dead,.dead]):=by
 rw [az (b:=pT) (rs:=[.t 4]) (n:=2) rfl rfl]
 have h:=IP  a b hb jv
 cases g : cA (fun x : ah×ah=>decide (x.1≠x.2)) 0 (a.zip b) with
 | some x =>
  obtain ⟨i,x⟩:=x
  obtain ⟨_,h1,h2⟩:=mN g
  have h3 : ¬ a = b:=U8 (List.mem_of_getElem? h1) (by simpa using h2)
  rw [g] at h; simp only [Option.elim] at h; simp -implicitDefEqProofs [pT,h,h3]
 | none =>
 have h1:=zB.1 g
 rw [g] at h
 simp only [Option.elim] at h
 try simp at h
 by_cases hl : a.length = b.length
 ·have h2:=Hw h1 hl
  subst h2
  try simp at h
  simp -implicitDefEqProofs [pT,h]
 have h3 : ¬ a = b:=fun e=>hl (by rw [e])
 have h4 : ¬ (a.length : Int) = b.length:=by omega
 simp -implicitDefEqProofs [pT,h,h3,h4]
 all_goals (repeat' split) <;> first | rfl | omega | (simp_all; done) | (simp_all; omega) | skip
end M
namespace M
open Go
theorem Ix (o : Ob) (hb : wL wS o.values≤1073741824) : aK (ai (ev LI TT) (ak TT) tv) [(1,.ptr .own (cu .af o)),(3,.int .i64 0)] = if aS fW (o.values) = true then some (.exit 0,[(1,.ptr .own (cu .af o)),(3,.int .i64 (o.values).length),(49,.bool false)]) else some (.ret,[(2,.bool false)]):=by
 refine cN (f:=ai (ev LI TT) (ak TT) tv) (o.values) (fun i=>[(1,.ptr .own (cu .af o)),(3,.int .i64 i)]) fW _ _ (fun i b hi hl=>?_) ?_
 ·have hw:=aT i (by have:=br (w:=wS) o.values; omega)
  obtain ⟨_,rfl⟩:=List.getElem?_eq_some_iff.1 hi
  have hm:=yB (List.getElem_mem hl)
  have u1:=ze  o.values[i] (by omega)
  try simp at u1
  simp -implicitDefEqProofs [tv,Cf,hl,hw,u1]
  all_goals (repeat' split) <;> first | rfl | omega | (simp_all; done) | (simp_all; omega) | skip
 ·simp -implicitDefEqProofs [tv,Cf]
theorem DI (o : Ob) (hb : b7 o≤1073741824) : ev LI TT 108 [.agg (cu .af o)] = some (.bool ((je o)),[.dead]):=by
 rw [az (b:=iF) (rs:=[.t 2]) (n:=1) rfl rfl]
 have hw : b7 o = o.path.length + wL wS o.names + wL wS o.values + ct o.resp:=rfl
 have lO : ct o.resp = wL aU o.resp.fields + o.resp.body.length:=rfl
 have hn:=br (w:=wS) o.names
 have hv:=br (w:=wS) o.values
 have hvl:=Ho o.resp.fields
 unfold je xd
 have u1:=KI  o.resp (by omega)
 try simp at u1
 have u2:=DM  o.path (by omega)
 try simp at u2
 have u3:=KS  o.names (by omega) (fun w hw=>by have:=yB hw; omega)
 try simp at u3
 have u4:=KM  o.resp.fields (by omega)
 try simp at u4
 have u5:=KQ  o.names (jl o.resp.fields) (by omega) (by omega)
 try simp at u5
 have u6:=Ix  o (by omega)
 try simp at u6
 by_cases g1 : kL o.resp = true
 rotate_left
 ·simp -implicitDefEqProofs [iF,u1,u2,u3,u4,u5,u6,g1]
 by_cases g2 : gT o.path = true
 rotate_left
 ·simp -implicitDefEqProofs [iF,u1,u2,u3,u4,u5,u6,g1,g2]
 by_cases g3 : 0≤o.t
 rotate_left
 ·simp -implicitDefEqProofs [iF,u1,u2,u3,u4,u5,u6,g1,g2,eq_false g3]
 by_cases g4 : o.t≤1000000
 rotate_left
 ·simp -implicitDefEqProofs [iF,u1,u2,u3,u4,u5,u6,g1,g2,eq_true g3,eq_false g4]
 by_cases g5 : aS ei o.names = true
 rotate_left
 ·simp -implicitDefEqProofs [iF,u1,u2,u3,u4,u5,u6,g1,g2,eq_true g3,eq_true g4,g5]
 by_cases g6 : (o.names.length : Int)≤4
 rotate_left
 ·simp -implicitDefEqProofs [iF,u1,u2,u3,u4,u5,u6,g1,g2,eq_true g3,eq_true g4,g5,eq_false g6]
 by_cases g7 : o.names = jl o.resp.fields
 rotate_left
 ·simp -implicitDefEqProofs [iF,u1,u2,u3,u4,u5,u6,g1,g2,eq_true g3,eq_true g4,g5,eq_true g6,eq_false g7]
 by_cases g8 : o.values.length = o.names.length
 rotate_left
 ·have js : ¬ (o.values.length : Int) = o.names.length:=by omega
  simp -implicitDefEqProofs [iF,u1,u2,u3,u4,u5,u6,g1,g2,eq_true g3,eq_true g4,g5,eq_true g6,eq_true g7,eq_false g8,eq_false js]
 have js : (o.values.length : Int) = o.names.length:=by omega
 simp -implicitDefEqProofs [iF,u1,u2,u3,u4,u5,u6,g1,g2,eq_true g3,eq_true g4,g5,eq_true g6,eq_true g7,eq_true g8,eq_true js]
 all_goals (repeat' split) <;> first | rfl | omega | (simp_all; done) | (simp_all; omega) | skip
theorem HH (o : Ob) (hb : wL wS o.values≤1073741824) : aK (ai (ev LI TT) (ak TT) rL) [(1,.ptr .own (cu .af o)),(5,.ax 1 [] 0 2),(6,.row .af 1 (o.values.map eS)),(7,.int .i64 o.values.length),(8,.int .i64 0)] = if aS fW (o.values) = true then some (.exit 0,[(1,.ptr .own (cu .af o)),(5,.ax 1 [] 0 2),(6,.row .af 1 (o.values.map eS)),(7,.int .i64 o.values.length),(8,.int .i64 (o.values).length),(9,.bool false)]) else some (.ret,[(2,.bool false)]):=by
 refine cN (f:=ai (ev LI TT) (ak TT) rL) (o.values) (fun i=>[(1,.ptr .own (cu .af o)),(5,.ax 1 [] 0 2),(6,.row .af 1 (o.values.map eS)),(7,.int .i64 o.values.length),(8,.int .i64 i)]) fW _ _ (fun i b hi hl=>?_) ?_
 ·have hw:=aT i (by have:=br (w:=wS) o.values; omega)
  obtain ⟨_,rfl⟩:=List.getElem?_eq_some_iff.1 hi
  have hm:=yB (List.getElem_mem hl)
  have u1:=yY  o.values[i] (by omega)
  try simp at u1
  simp -implicitDefEqProofs [rL,Ar,hl,hw,u1]
  all_goals (repeat' split) <;> first | rfl | omega | (simp_all; done) | (simp_all; omega) | skip
 ·simp -implicitDefEqProofs [rL,Ar]
theorem Dt (o : Ob) (hb : b7 o≤1073741824) : ev LI TT 205 [.agg (cu .af o)] = some (.bool ((je o)),[.dead]):=by
 rw [az (b:=iA) (rs:=[.t 2]) (n:=1) rfl rfl]
 have hw : b7 o = o.path.length + wL wS o.names + wL wS o.values + ct o.resp:=rfl
 have lO : ct o.resp = wL aU o.resp.fields + o.resp.body.length:=rfl
 have hn:=br (w:=wS) o.names
 have hv:=br (w:=wS) o.values
 have hvl:=Ho o.resp.fields
 unfold je xd
 have u1:=Jz  o.resp (by omega)
 try simp at u1
 have u2:=Dx  o.path (by omega)
 try simp at u2
 have u3:=JQ  o.names (by omega) (fun w hw=>by have:=yB hw; omega)
 try simp at u3
 have u4:=JI  o.resp.fields (by omega)
 try simp at u4
 have u5:=KZ  o.names (jl o.resp.fields) (by omega)
 try simp at u5
 have u6:=HH  o (by omega)
 try simp at u6
 by_cases g1 : aS fW o.values = true
 rotate_left
 ·simp -implicitDefEqProofs [iA,u1,u2,u3,u4,u5,u6,g1]
 by_cases g2 : gT o.path = true
 rotate_left
 ·simp -implicitDefEqProofs [iA,u1,u2,u3,u4,u5,u6,g1,g2]
 by_cases g3 : 0≤o.t
 rotate_left
 ·simp -implicitDefEqProofs [iA,u1,u2,u3,u4,u5,u6,g1,g2,eq_false g3]
 by_cases g4 : o.t≤1000000
 rotate_left
 ·simp -implicitDefEqProofs [iA,u1,u2,u3,u4,u5,u6,g1,g2,eq_true g3,eq_false g4]
 by_cases g8 : o.values.length = o.names.length
 rotate_left
 ·have js : ¬ (o.values.length : Int) = o.names.length:=by omega
  simp -implicitDefEqProofs [iA,u1,u2,u3,u4,u5,u6,g1,g2,eq_true g3,eq_true g4,eq_false g8,eq_false js]
 have js : (o.values.length : Int) = o.names.length:=by omega
 by_cases h5 : aS ei o.names = true
 rotate_left
 ·simp -implicitDefEqProofs [iA,u1,u2,u3,u4,u5,u6,g1,g2,eq_true g3,eq_true g4,eq_true g8,eq_true js,h5]
 by_cases h6 : (o.names.length : Int)≤4
 rotate_left
 ·simp -implicitDefEqProofs [iA,u1,u2,u3,u4,u5,u6,g1,g2,eq_true g3,eq_true g4,eq_true g8,eq_true js,h5,eq_false h6]
 by_cases h7 : kL o.resp = true
 rotate_left
 ·simp -implicitDefEqProofs [iA,u1,u2,u3,u4,u5,u6,g1,g2,eq_true g3,eq_true g4,eq_true g8,eq_true js,h5,eq_true h6,h7]
 simp -implicitDefEqProofs [iA,u1,u2,u3,u4,u5,u6,g1,g2,eq_true g3,eq_true g4,eq_true g8,eq_true js,h5,eq_true h6,h7]
 all_goals (repeat' split) <;> first | rfl | omega | (simp_all; done) | (simp_all; omega) | skip
theorem uH (b : Bn) (hb : aH b≤1073741824) : ev LI TT 94 [.agg (aM b)] = some (.bool ((dj b)),[.dead]):=by
 rw [az (b:=kM) (rs:=[.t 2]) (n:=1) rfl rfl]
 have hw : aH b = b.a.length + b.b.length:=rfl
 unfold dj
 have u1:=DM  b.a (by omega)
 try simp at u1
 have u2:=zc  b.a (by omega)
 try simp at u2
 have u3:=ze  b.b (by omega)
 try simp at u3
 by_cases g1 : 0≤b.t
 rotate_left
 ·simp -implicitDefEqProofs [kM,u1,u2,u3,eq_false g1]
 by_cases g2 : b.t≤1000000
 rotate_left
 ·simp -implicitDefEqProofs [kM,u1,u2,u3,eq_true g1,eq_false g2]
 by_cases h1 : b.kind = 1
 ·by_cases h2 : gT b.a = true <;> simp -implicitDefEqProofs [kM,u1,u2,u3,eq_true g1,eq_true g2,h1,h2]
 by_cases h2 : b.kind = 2
 ·by_cases h3 : gT b.a = true <;> simp -implicitDefEqProofs [kM,u1,u2,u3,eq_true g1,eq_true g2,h2,h3]
 by_cases h3 : b.kind = 3
 ·by_cases h4 : ei b.a = true <;> simp -implicitDefEqProofs [kM,u1,u2,u3,eq_true g1,eq_true g2,h3,h4]
 simp -implicitDefEqProofs [kM,u1,u2,u3,eq_true g1,eq_true g2,h1,h2,h3]
 all_goals (repeat' split) <;> first | rfl | omega | (simp_all; done) | (simp_all; omega) | skip
theorem uG (b : Bn) (hb : aH b≤1073741824) : ev LI TT 178 [.agg (aM b)] = some (.bool ((dj b)),[.dead]):=by
 rw [az (b:=ku) (rs:=[.t 2]) (n:=1) rfl rfl]
 have hw : aH b = b.a.length + b.b.length:=rfl
 unfold dj
 have u1:=Dx  b.a (by omega)
 try simp at u1
 have u2:=yX  b.a (by omega)
 try simp at u2
 have u3:=yY  b.b (by omega)
 try simp at u3
 by_cases g1 : 0≤b.t
 rotate_left
 ·simp -implicitDefEqProofs [ku,u1,u2,u3,eq_false g1]
 by_cases g2 : b.t≤1000000
 rotate_left
 ·simp -implicitDefEqProofs [ku,u1,u2,u3,eq_true g1,eq_false g2]
 by_cases h1 : b.kind = 1
 ·by_cases h2 : gT b.a = true <;> simp -implicitDefEqProofs [ku,u1,u2,u3,eq_true g1,eq_true g2,h1,h2]
 by_cases h2 : b.kind = 2
 ·by_cases h3 : gT b.a = true <;> simp -implicitDefEqProofs [ku,u1,u2,u3,eq_true g1,eq_true g2,h2,h3]
 by_cases h3 : b.kind = 3
 ·by_cases h4 : ei b.a = true <;> simp -implicitDefEqProofs [ku,u1,u2,u3,eq_true g1,eq_true g2,h3,h4]
 simp -implicitDefEqProofs [ku,u1,u2,u3,eq_true g1,eq_true g2,h1,h2,h3]
 all_goals (repeat' split) <;> first | rfl | omega | (simp_all; done) | (simp_all; omega) | skip
@[simp] theorem VA (t : Int) : ev LI TT 219 [.int .i64 t] = some (.bool ((decide (0≤t∧t≤19))),[.dead]):=by
 rw [az (b:=vW) (rs:=[.t 2]) (n:=1) rfl rfl]
 simp -implicitDefEqProofs [vW]
 all_goals (repeat' split) <;> first | rfl | omega | (simp_all; done) | (simp_all; omega) | skip
@[simp] theorem VB (t : Int) : ev LI TT 179 [.int .i64 t] = some (.bool ((decide (5≤t∧t≤19))),[.dead]):=by
 rw [az (b:=vX) (rs:=[.t 2]) (n:=1) rfl rfl]
 simp -implicitDefEqProofs [vX]
 all_goals (repeat' split) <;> first | rfl | omega | (simp_all; done) | (simp_all; omega) | skip
theorem Ir (d : bW) (hb : d.pending.length≤9223372036854775807) : aK (ai (ev LI TT) (ak TT) tj) [(1,.ptr .own (cq .af d)),(3,.int .i64 0)] = if aS jI (d.pending) = true then some (.exit 0,[(1,.ptr .own (cq .af d)),(3,.int .i64 (d.pending).length),(8,.bool false)]) else some (.ret,[(2,.bool false)]):=by
 refine cN (f:=ai (ev LI TT) (ak TT) tj) (d.pending) (fun i=>[(1,.ptr .own (cq .af d)),(3,.int .i64 i)]) jI _ _ (fun i b hi hl=>?_) ?_
 ·have hw:=aT i (by first | omega | (simp at hl; omega))
  obtain ⟨_,rfl⟩:=List.getElem?_eq_some_iff.1 hi
  simp -implicitDefEqProofs [tj,Cb,hl,hw,jI]
  all_goals (repeat' split) <;> first | rfl | omega | (simp_all; done) | (simp_all; omega) | skip
 ·simp -implicitDefEqProofs [tj,Cb]
theorem za (d : bW) (hb : d.pending.length≤9223372036854775807) : ev LI TT 119 [.agg (cq .af d)] = some (.bool ((dc d)),[.dead]):=by
 rw [az (b:=xm) (rs:=[.t 2]) (n:=1) rfl rfl]
 unfold dc
 have u1:=Ir  d hb
 try simp at u1
 simp -implicitDefEqProofs [xm,u1]
 all_goals (repeat' split) <;> first | rfl | omega | (simp_all; done) | (simp_all; omega) | skip
theorem HC (d : bW) (hb : d.pending.length≤9223372036854775807) : aK (ai (ev LI TT) (ak TT) rF) [(1,.ptr .own (cq .af d)),(5,.ax 1 [] 0 1),(6,.row .af 2 (d.pending.map eW)),(7,.int .i64 d.pending.length),(8,.int .i64 0)] = if aS jI (d.pending) = true then some (.exit 0,[(1,.ptr .own (cq .af d)),(5,.ax 1 [] 0 1),(6,.row .af 2 (d.pending.map eW)),(7,.int .i64 d.pending.length),(8,.int .i64 (d.pending).length),(9,.bool false)]) else some (.ret,[(2,.bool false)]):=by
 refine cN (f:=ai (ev LI TT) (ak TT) rF) (d.pending) (fun i=>[(1,.ptr .own (cq .af d)),(5,.ax 1 [] 0 1),(6,.row .af 2 (d.pending.map eW)),(7,.int .i64 d.pending.length),(8,.int .i64 i)]) jI _ _ (fun i b hi hl=>?_) ?_
 ·have hw:=aT i (by first | omega | (simp at hl; omega))
  obtain ⟨_,rfl⟩:=List.getElem?_eq_some_iff.1 hi
  simp -implicitDefEqProofs [rF,Ao,hl,hw,jI]
  all_goals (repeat' split) <;> first | rfl | omega | (simp_all; done) | (simp_all; omega) | skip
 ·simp -implicitDefEqProofs [rF,Ao]
theorem Js (d : bW) (hb : d.pending.length≤9223372036854775807) : ev LI TT 128 [.agg (cq .af d)] = some (.bool ((dc d)),[.dead]):=by
 rw [az (b:=vw) (rs:=[.t 2]) (n:=1) rfl rfl]
 unfold dc
 have u1:=HC  d hb
 try simp at u1
 simp -implicitDefEqProofs [vw,u1]
 all_goals (repeat' split) <;> first | rfl | omega | (simp_all; done) | (simp_all; omega) | skip
end M
namespace M
open Go
theorem Iy (s : Sh) (hb : bA s≤1073741824) : aK (ai (ev LI TT) (ak TT) tw) [(1,.ptr .own (aY .af s)),(3,.int .i64 0)] = if aS dj (s.aD) = true then some (.exit 0,[(1,.ptr .own (aY .af s)),(3,.int .i64 (s.aD).length),(33,.bool false)]) else some (.ret,[(2,.bool false)]):=by
 refine cN (f:=ai (ev LI TT) (ak TT) tw) (s.aD) (fun i=>[(1,.ptr .own (aY .af s)),(3,.int .i64 i)]) dj _ _ (fun i b hi hl=>?_) ?_
 ·have hw:=aT i (by have fA : bA s = bJ s.aG + wL aR s.ay + wL aH s.aD:=rfl; have:=br (w:=aH) s.aD; omega)
  obtain ⟨_,rfl⟩:=List.getElem?_eq_some_iff.1 hi
  have fA : bA s = bJ s.aG + wL aR s.ay + wL aH s.aD:=rfl
  have hm:=yx (List.getElem_mem hl)
  have u1:=uH  s.aD[i] (by omega)
  try simp at u1
  simp -implicitDefEqProofs [tw,Cg,hl,hw,u1]
  all_goals (repeat' split) <;> first | rfl | omega | (simp_all; done) | (simp_all; omega) | skip
 ·simp -implicitDefEqProofs [tw,Cg]
theorem Iz (s : Sh) (n : Nat) (k : Kp) (hn : n≤s.ay.length) (hb : s.ay.length≤1073741824) : aK (ai (ev LI TT) (ak TT) tA) [(1,.ptr .own (aY .af s)),(4,.int .i64 n),(5,.ptr .own (aB .af k)),(6,.int .i64 0)] = if aS (fun y=>decide ¬ y.at_ = k.at_) (s.ay.take n) = true then some (.exit 4,[(1,.ptr .own (aY .af s)),(4,.int .i64 n),(5,.ptr .own (aB .af k)),(6,.int .i64 (s.ay.take n).length),(92,.bool false)]) else some (.ret,[(2,.bool false)]):=by
 refine cN (f:=ai (ev LI TT) (ak TT) tA) (s.ay.take n) (fun i=>[(1,.ptr .own (aY .af s)),(4,.int .i64 n),(5,.ptr .own (aB .af k)),(6,.int .i64 i)]) (fun y=>decide ¬ y.at_ = k.at_) _ _ (fun i b hi hl=>?_) ?_
 ·have hw:=aT i (by first | omega | (simp at hl; omega))
  obtain ⟨_,rfl⟩:=List.getElem?_eq_some_iff.1 hi
  have h1 : i < n:=by simp at hl; omega
  have h2 : i < s.ay.length:=by omega
  simp -implicitDefEqProofs [tA,Ch,hl,hw,h1,h2]
  all_goals (repeat' split) <;> first | rfl | omega | (simp_all; done) | (simp_all; omega) | skip
 ·have hmin : min n s.ay.length = n:=by omega
  simp -implicitDefEqProofs [tA,Ch,hmin]
theorem IA (s : Sh) (hb : bA s≤1073741824) (hs : 1≤s.seq∧s.seq≤100000) : aK (ai (ev LI TT) (ak TT) iG) [(1,.ptr .own (aY .af s)),(4,.int .i64 0)] = if aS (gO s.seq s.ay) (s.ay.zipIdx) = true then some (.exit 2,[(1,.ptr .own (aY .af s)),(4,.int .i64 (s.ay.zipIdx).length),(47,.bool false)]) else some (.ret,[(2,.bool false)]):=by
 refine cN (f:=ai (ev LI TT) (ak TT) iG) (s.ay.zipIdx) (fun i=>[(1,.ptr .own (aY .af s)),(4,.int .i64 i)]) (gO s.seq s.ay) _ _ (fun i b hi hl=>?_) ?_
 ·have hw:=aT i (by have fA : bA s = bJ s.aG + wL aR s.ay + wL aH s.aD:=rfl; have:=br (w:=aR) s.ay; simp at hl; omega)
  obtain ⟨_,rfl⟩:=List.getElem?_eq_some_iff.1 hi
  simp only [List.length_zipIdx] at hl
  have fA : bA s = bJ s.aG + wL aR s.ay + wL aH s.aD:=rfl
  have hlen:=br (w:=aR) s.ay
  have hz : s.ay.zipIdx[i]'(by simpa using hl) = (s.ay[i],i):=by simp
  have hm:=p9 (List.getElem_mem hl)
  have hS : IntKind.i64.wrap (s.seq - 1) = s.seq - 1:=aO (by omega) (by omega)
  rw [hz]
  have hmin : min i s.ay.length = i:=by omega
  have u1:=DI  s.ay[i].obj (by omega)
  try simp at u1
  have u2:=Iz  s i s.ay[i] (by omega) (by omega)
  try simp at u2
  by_cases g1 : je (s.ay[i]).obj = true
  rotate_left
  ·simp -implicitDefEqProofs [iG,jR,hl,hw,u1,u2,gO,hS,hmin,g1]
  by_cases g2 : 5≤(s.ay[i]).at_
  rotate_left
  ·simp -implicitDefEqProofs [iG,jR,hl,hw,u1,u2,gO,hS,hmin,g1,eq_false g2]
  by_cases g3 : (s.ay[i]).at_≤19
  rotate_left
  ·simp -implicitDefEqProofs [iG,jR,hl,hw,u1,u2,gO,hS,hmin,g1,eq_true g2,eq_false g3]
  by_cases g4 : 1≤(s.ay[i]).seq
  rotate_left
  ·simp -implicitDefEqProofs [iG,jR,hl,hw,u1,u2,gO,hS,hmin,g1,eq_true g2,eq_true g3,eq_false g4]
  by_cases g5 : (s.ay[i]).seq≤s.seq - 1
  rotate_left
  ·simp -implicitDefEqProofs [iG,jR,hl,hw,u1,u2,gO,hS,hmin,g1,eq_true g2,eq_true g3,eq_true g4,eq_false g5]
  by_cases g6 : i = 0
  ·subst g6
   try simp at u2 hw
   simp -implicitDefEqProofs [iG,jR,hl,hw,u1,u2,gO,hS,hmin,g1,eq_true g2,eq_true g3,eq_true g4,eq_true g5]
  obtain ⟨j,rfl⟩ : ∃ j,i = j + 1:=⟨i - 1,by omega⟩
  have hj : j < s.ay.length:=by omega
  have hJ : IntKind.i64.wrap (j : Int) = j:=aO (by omega) (by omega)
  have hp:=BU s.ay j hj
  try simp at u2 hw hS
  have hpos : (0 : Int) < (j : Int) + 1:=by omega
  have hlc : (j : Int) + 1 < s.ay.length:=by omega
  have eN : (0 : Int)≤(j : Int) + 1:=by omega
  by_cases g7 : (s.ay[j]).seq < (s.ay[j + 1]).seq
  rotate_left
  ·have zJ : (s.ay[j + 1]).seq≤(s.ay[j]).seq:=by omega
   simp -implicitDefEqProofs [iG,jR,hl,hw,u1,u2,gO,hS,hmin,g1,eq_true g2,eq_true g3,eq_true g4,eq_true g5,hj,hJ,hp,hpos,hlc,eN,eq_false g7,eq_true zJ]
  have zJ : ¬ (s.ay[j + 1]).seq≤(s.ay[j]).seq:=by omega
  simp -implicitDefEqProofs [iG,jR,hl,hw,u1,u2,gO,hS,hmin,g1,eq_true g2,eq_true g3,eq_true g4,eq_true g5,hj,hJ,hp,hpos,hlc,eN,eq_true g7,eq_false zJ]
  all_goals (repeat' split) <;> first | rfl | omega | (simp_all; done) | (simp_all; omega) | skip
 ·simp -implicitDefEqProofs [iG,jR]
theorem KJ (s : Sh) (hb : bA s≤1073741824) : ev LI TT 89 [.agg (aY .af s)] = some (.bool ((dV s)),[.dead]):=by
 rw [az (b:=jS) (rs:=[.t 2]) (n:=1) rfl rfl]
 have fA : bA s = bJ s.aG + wL aR s.ay + wL aH s.aD:=rfl
 have Al : bJ s.aG = wL wS s.aG.cells + wL bk s.aG.pending:=rfl
 have hlen:=br (w:=bk) s.aG.pending
 unfold dV
 have u1:=za  s.aG (by omega)
 try simp at u1
 have u2:=Iy  s hb
 try simp at u2
 by_cases g1 : dc s.aG = true
 rotate_left
 ·simp -implicitDefEqProofs [jS,u1,u2,g1]
 by_cases g2 : (s.aD.length : Int)≤5
 rotate_left
 ·simp -implicitDefEqProofs [jS,u1,u2,g1,eq_false g2]
 by_cases g3 : 5≤s.next
 rotate_left
 ·simp -implicitDefEqProofs [jS,u1,u2,g1,eq_true g2,eq_false g3]
 by_cases g4 : s.next≤19
 rotate_left
 ·simp -implicitDefEqProofs [jS,u1,u2,g1,eq_true g2,eq_true g3,eq_false g4]
 by_cases g5 : 1≤s.seq
 rotate_left
 ·simp -implicitDefEqProofs [jS,u1,u2,g1,eq_true g2,eq_true g3,eq_true g4,eq_false g5]
 by_cases g6 : s.seq≤100000
 rotate_left
 ·simp -implicitDefEqProofs [jS,u1,u2,g1,eq_true g2,eq_true g3,eq_true g4,eq_true g5,eq_false g6]
 have u3:=IA s hb ⟨by omega,by omega⟩
 rw [P2] at u3
 simp at u3
 have ov : ¬ 5 < (s.aD.length : Int):=by omega
 simp -implicitDefEqProofs [jS,u1,u2,g1,eq_true g2,eq_true g3,eq_true g4,eq_true g5,eq_true g6,u3,ov]
 all_goals (repeat' split) <;> first | rfl | omega | (simp_all; done) | (simp_all; omega) | skip
end M
namespace M
open Go
theorem JE (x k : Kp) : ev LI TT 262 [.agg (aB .af x),.ptr .af (aB .af k)] = some (.bool (decide (x.at_ = k.at_)),[.dead,.dead]):=by
 rw [az (b:=vE) (rs:=[.t 3]) (n:=2) rfl rfl]
 simp -implicitDefEqProofs [vE]
 all_goals (repeat' split) <;> first | rfl | omega | (simp_all; done) | (simp_all; omega) | skip
theorem IW (l : List Kp) (k : Kp) (gf : Nat) (p : Kp→Bool) (ho : ak TT gf = true) (hf : ∀ x∈l,ev LI TT gf [.agg (aB .af x),.ptr .af (aB .af k)] = some (.bool (p x),[.dead,.dead])) (hb : l.length≤9223372036854775807) : aK (ai (ev LI TT) (ak TT) kS) [(0,.row .af 9 (l.map (aB .af))),(1,.fn gf [.ptr .af (aB .af k)]),(7,.int .i64 l.length),(8,.int .i64 0)] = (cA p 0 (l)).elim (some (.exit 0,[(0,.row .af 9 (l.map (aB .af))),(1,.fn gf [.ptr .af (aB .af k)]),(7,.int .i64 l.length),(8,.int .i64 (l).length),(9,.bool false)])) fun x=>some (.ret,(fun (i : Nat) b=>[(4,.int .i64 i)]) x.1 x.2):=by
 refine sP (f:=ai (ev LI TT) (ak TT) kS) (l) (fun i=>[(0,.row .af 9 (l.map (aB .af))),(1,.fn gf [.ptr .af (aB .af k)]),(7,.int .i64 l.length),(8,.int .i64 i)]) p (fun (i : Nat) b=>[(4,.int .i64 i)]) _ (fun i b hi hl=>?_) ?_
 ·have hw:=aT i (by first | omega | (simp at hl; omega))
  obtain ⟨_,rfl⟩:=List.getElem?_eq_some_iff.1 hi
  have u1:=hf l[i] (List.getElem_mem hl)
  try simp at u1
  simp -implicitDefEqProofs [kS,uo,hl,hw,u1,ho,nq]
  all_goals (repeat' split) <;> first | rfl | omega | (simp_all; done) | (simp_all; omega) | skip
 ·simp -implicitDefEqProofs [kS,uo]
theorem K2 (l : List Kp) (k : Kp) (gf : Nat) (p : Kp→Bool) (ho : ak TT gf = true) (hf : ∀ x∈l,ev LI TT gf [.agg (aB .af x),.ptr .af (aB .af k)] = some (.bool (p x),[.dead,.dead])) (hb : l.length≤9223372036854775807) : ev LI TT 268 [.row .af 9 (l.map (aB .af)),.fn gf [.ptr .af (aB .af k)]] = some (.int .i64 ((cA p 0 l).elim (-1) fun x=>(x.1 : Int)),[.dead,.dead]):=by
 rw [az (b:=mg) (rs:=[.t 4]) (n:=2) rfl rfl]
 have u1:=IW  l k gf p ho hf hb
 try simp at u1
 cases g : cA p 0 l with
 | none=>rw [g] at u1; simp at u1; simp -implicitDefEqProofs [mg,u1]
 | some x =>
 rw [g] at u1
 simp at u1
 simp -implicitDefEqProofs [mg,u1]
 all_goals (repeat' split) <;> first | rfl | omega | (simp_all; done) | (simp_all; omega) | skip
theorem KY (l : List Kp) (k : Kp) (gf : Nat) (p : Kp→Bool) (ho : ak TT gf = true) (hf : ∀ x∈l,ev LI TT gf [.agg (aB .af x),.ptr .af (aB .af k)] = some (.bool (p x),[.dead,.dead])) (hb : l.length≤9223372036854775807) : ev LI TT 223 [.row .af 9 (l.map (aB .af)),.fn gf [.ptr .af (aB .af k)]] = some (.bool (!aS (fun x=>!p x) l),[.dead,.dead]):=by
 rw [az (b:=ug) (rs:=[.t 4]) (n:=2) rfl rfl]
 have u1:=K2  l k gf p ho hf hb
 try simp at u1
 rw [← EK p l 0]
 cases g : cA p 0 l with
 | none=>rw [g] at u1; simp at u1; simp -implicitDefEqProofs [ug,u1]
 | some x =>
 rw [g] at u1
 simp at u1
 simp -implicitDefEqProofs [ug,u1]
 all_goals (repeat' split) <;> first | rfl | omega | (simp_all; done) | (simp_all; omega) | skip
theorem HQ (s : Sh) (hb : bA s≤1073741824) : ∃ sl,aK (ai (ev LI TT) (ak TT) iY) [(0,.ptr .af (aY .af s)),(3,.int .i64 0),(7,.ptr .af (aY .af s)),(8,.ptr .af (aY .af s)),(9,.ptr .af ((aY .af s).drop 2)),(10,.row .af 9 (s.ay.map (aB .af))),(11,.int .i64 s.ay.length),(12,.int .i64 0)] = if pG s.seq s.ay = true then some (.exit 0,sl) else some (.ret,[(2,.bool false)]):=by
 have fA : bA s = bJ s.aG + wL aR s.ay + wL aH s.aD:=rfl
 have hlen:=br (w:=aR) s.ay
 refine ⟨_,cN (f:=ai (ev LI TT) (ak TT) iY) s.ay.zipIdx (fun i=>[(0,.ptr .af (aY .af s)),(3,.int .i64 (jh s.ay i)),(7,.ptr .af (aY .af s)),(8,.ptr .af (aY .af s)),(9,.ptr .af ((aY .af s).drop 2)),(10,.row .af 9 (s.ay.map (aB .af))),(11,.int .i64 s.ay.length),(12,.int .i64 i)]) (nu s.seq s.ay) [(2,.bool false)] [(0,.ptr .af (aY .af s)),(3,.int .i64 (jh s.ay s.ay.length)),(7,.ptr .af (aY .af s)),(8,.ptr .af (aY .af s)),(9,.ptr .af ((aY .af s).drop 2)),(10,.row .af 9 (s.ay.map (aB .af))),(11,.int .i64 s.ay.length),(12,.int .i64 s.ay.length),(13,.bool false)] (fun i b hi hl=>?_) ?_⟩
 ·simp only [List.length_zipIdx] at hl
  have hw:=aT i (by omega)
  obtain ⟨_,rfl⟩:=List.getElem?_eq_some_iff.1 hi
  have hz : s.ay.zipIdx[i]'(by simpa using hl) = (s.ay[i],i):=by simp
  have hm:=p9 (List.getElem_mem hl)
  have hp:=BU s.ay i hl
  rw [hz]
  have hs : cF [] = true:=rfl
  have u1:=Dt s.ay[i].obj (by omega)
  have u2:=KY (s.ay.take i) s.ay[i] 262 (fun x=>decide (x.at_ = (s.ay[i]).at_)) rfl (fun x _=>JE x s.ay[i]) (by simp; omega)
  have hle : (i : Int)≤s.ay.length:=by omega
  have mS : i≤s.ay.length:=by omega
  simp at u1 u2
  unfold nu
  by_cases g1 : je (s.ay[i]).obj = true
  rotate_left
  ·simp -implicitDefEqProofs [iY,kB,hl,hw,hle,mS,gC,eg,dI,u1,u2,g1]
  by_cases g2 : 5≤(s.ay[i]).at_
  rotate_left
  ·simp -implicitDefEqProofs [iY,kB,hl,hw,hle,mS,gC,eg,dI,u1,u2,g1,eq_false g2]
  by_cases g3 : (s.ay[i]).at_≤19
  rotate_left
  ·simp -implicitDefEqProofs [iY,kB,hl,hw,hle,mS,gC,eg,dI,u1,u2,g1,eq_true g2,eq_false g3]
  by_cases g4 : aS (fun y : Kp=>!decide (y.at_ = (s.ay[i]).at_)) (s.ay.take i) = true
  rotate_left
  ·simp -implicitDefEqProofs [iY,kB,hl,hw,hle,mS,gC,eg,dI,u1,u2,g1,eq_true g2,eq_true g3,g4]
  by_cases g5 : jh s.ay i < (s.ay[i]).seq
  rotate_left
  ·have va : (s.ay[i]).seq≤jh s.ay i:=by omega
   simp -implicitDefEqProofs [iY,kB,hl,hw,hle,mS,gC,eg,dI,u1,u2,g1,eq_true g2,eq_true g3,g4,eq_false g5,eq_true va]
  have va : ¬ (s.ay[i]).seq≤jh s.ay i:=by omega
  by_cases g6 : (s.ay[i]).seq < s.seq
  rotate_left
  ·have zI : s.seq≤(s.ay[i]).seq:=by omega
   simp -implicitDefEqProofs [iY,kB,hl,hw,hle,mS,gC,eg,dI,u1,u2,g1,eq_true g2,eq_true g3,g4,eq_true g5,eq_false va,eq_false g6,eq_true zI]
  have zI : ¬ s.seq≤(s.ay[i]).seq:=by omega
  simp -implicitDefEqProofs [iY,kB,hl,hw,hle,mS,gC,eg,dI,u1,u2,g1,eq_true g2,eq_true g3,g4,eq_true g5,eq_false va,eq_true g6,eq_false zI,hp]
 ·simp -implicitDefEqProofs [iY,kB]
theorem JD (s : Sh) (hb : bA s≤1073741824) : ev LI TT 181 [.ptr .af (aY .af s)] = some (.bool (pG s.seq s.ay),[.dead]):=by
 rw [az (b:=vF) (rs:=[.t 2]) (n:=1) rfl rfl]
 obtain ⟨sl,u1⟩:=HQ s hb
 simp at u1
 simp -implicitDefEqProofs [vF,u1]
 all_goals (repeat' split) <;> first | rfl | omega | (simp_all; done) | (simp_all; omega) | skip
theorem HI (s : Sh) (hb : bA s≤1073741824) : aK (ai (ev LI TT) (ak TT) rM) [(1,.ptr .own (aY .af s)),(5,.ax 1 [] 0 3),(6,.row .af 4 (s.aD.map aM)),(7,.int .i64 s.aD.length),(8,.int .i64 0)] = if aS dj (s.aD) = true then some (.exit 0,[(1,.ptr .own (aY .af s)),(5,.ax 1 [] 0 3),(6,.row .af 4 (s.aD.map aM)),(7,.int .i64 s.aD.length),(8,.int .i64 (s.aD).length),(9,.bool false)]) else some (.ret,[(2,.bool false)]):=by
 refine cN (f:=ai (ev LI TT) (ak TT) rM) (s.aD) (fun i=>[(1,.ptr .own (aY .af s)),(5,.ax 1 [] 0 3),(6,.row .af 4 (s.aD.map aM)),(7,.int .i64 s.aD.length),(8,.int .i64 i)]) dj _ _ (fun i b hi hl=>?_) ?_
 ·have hw:=aT i (by have fA : bA s = bJ s.aG + wL aR s.ay + wL aH s.aD:=rfl; have:=br (w:=aH) s.aD; omega)
  obtain ⟨_,rfl⟩:=List.getElem?_eq_some_iff.1 hi
  have fA : bA s = bJ s.aG + wL aR s.ay + wL aH s.aD:=rfl
  have hm:=yx (List.getElem_mem hl)
  have u1:=uG  s.aD[i] (by omega)
  try simp at u1
  simp -implicitDefEqProofs [rM,As,hl,hw,u1]
  all_goals (repeat' split) <;> first | rfl | omega | (simp_all; done) | (simp_all; omega) | skip
 ·simp -implicitDefEqProofs [rM,As]
theorem JA (s : Sh) (hb : bA s≤1073741824) : ev LI TT 92 [.agg (aY .af s)] = some (.bool ((dV s)),[.dead]):=by
 rw [az (b:=iX) (rs:=[.t 2]) (n:=1) rfl rfl]
 have fA : bA s = bJ s.aG + wL aR s.ay + wL aH s.aD:=rfl
 have Al : bJ s.aG = wL wS s.aG.cells + wL bk s.aG.pending:=rfl
 have hlen:=br (w:=bk) s.aG.pending
 unfold dV
 have u1:=Js  s.aG (by omega)
 try simp at u1
 have u2:=HI  s hb
 try simp at u2
 have u3:=JD  s hb
 try simp at u3
 by_cases g1 : aS dj s.aD = true
 rotate_left
 ·simp -implicitDefEqProofs [iX,u1,u2,u3,g1]
 by_cases g2 : (s.aD.length : Int)≤5
 rotate_left
 ·simp -implicitDefEqProofs [iX,u1,u2,u3,g1,eq_false g2]
 by_cases g3 : 5≤s.next
 rotate_left
 ·simp -implicitDefEqProofs [iX,u1,u2,u3,g1,eq_true g2,eq_false g3]
 by_cases g4 : s.next≤19
 rotate_left
 ·simp -implicitDefEqProofs [iX,u1,u2,u3,g1,eq_true g2,eq_true g3,eq_false g4]
 by_cases g5 : 1≤s.seq
 rotate_left
 ·simp -implicitDefEqProofs [iX,u1,u2,u3,g1,eq_true g2,eq_true g3,eq_true g4,eq_false g5]
 by_cases g6 : s.seq≤100000
 rotate_left
 ·simp -implicitDefEqProofs [iX,u1,u2,u3,g1,eq_true g2,eq_true g3,eq_true g4,eq_true g5,eq_false g6]
 by_cases g7 : dc s.aG = true
 rotate_left
 ·simp -implicitDefEqProofs [iX,u1,u2,u3,g1,eq_true g2,eq_true g3,eq_true g4,eq_true g5,eq_true g6,g7]
 simp -implicitDefEqProofs [iX,u1,u2,u3,g1,eq_true g2,eq_true g3,eq_true g4,eq_true g5,eq_true g6,g7]
 all_goals (repeat' split) <;> first | rfl | omega | (simp_all; done) | (simp_all; omega) | skip
end M
set_option maxHeartbeats 4000000
namespace M
open Go
structure Ve (r : cz) : Prop where
 s0 : 100≤r.status
 s1 : r.status≤599
 f : mL r.fields = true
 b : r.body.length≤120
 nt : kG r.status = bG r.status.toNat
 nb : kG (r.body.length : Int) = bG r.body.length
 ls : (bG r.status.toNat).length≤7
 lb : (bG r.body.length).length≤7
 YE : RF r = F5 ++ 32 :: (bG r.status.toNat ++ 32 :: 46 :: (crlf ++ (LN r.fields ++ (pF ++ (colon ++ (bG r.body.length ++ (dm ++ r.body)))))))
end M
set_option maxHeartbeats 4000000
namespace M
open Go
theorem E6 (fs : List aP) (n v : ah) : (decide (cP fs n = some v)) = ((cP fs n).isSome && decide ((cP fs n).getD [] = v)):=by
 cases cP fs n <;> simp
theorem Rl (p s : ah) : p.isPrefixOf s = (decide (p.length≤s.length) && decide (s.take p.length = p)):=by
 have:=Lib.hasPrefix_of_take s p
 unfold Lib.hasPrefix at this
 rw [← this]
 congr 1
 rw [Bool.eq_iff_iff]
 simp
theorem KD (b : Bn) (o : Ob) (h1 : aH b≤1073741824) (h2 : b7 o≤1073741824) : ev LI TT 139 [.agg (aM b),.agg (cu .af o)] = some (.bool (iy b o),[.dead,.dead]):=by
 rw [az (b:=jj) (rs:=[.t 4]) (n:=2) rfl rfl]
 have hw : aH b = b.a.length + b.b.length:=rfl
 have lO : b7 o = o.path.length + wL wS o.names + wL wS o.values + ct o.resp:=rfl
 have Pw : ct o.resp = wL aU o.resp.fields + o.resp.body.length:=rfl
 have l1:=br (w:=aU) o.resp.fields
 unfold iy
 rw [E6,Rl]
 have u1:=uH  b h1
 try simp at u1
 have u2:=DI  o (by omega)
 try simp at u2
 have u3:=DH  o.resp.fields b.a (by omega)
 try simp at u3
 generalize dj b = b1 at u1
 cases b1
 ·simp -implicitDefEqProofs [jj,u1]
 generalize je o = b2 at u2
 cases b2
 ·simp -implicitDefEqProofs [jj,u1,u2]
 by_cases g1 : o.t≤b.t
 rotate_left
 ·have fO : b.t < o.t:=by omega
  simp -implicitDefEqProofs [jj,u1,u2,g1,fO]
 have fO : ¬ b.t < o.t:=by omega
 by_cases g2 : b.kind = 1
 ·rw [g2] at u1
  simp -implicitDefEqProofs [jj,u1,u2,g1,fO,g2]
 by_cases g3 : b.kind = 2
 ·rw [g3] at u1
  by_cases g4 : b.a.length≤o.path.length
  ·have u9 : (b.a.length : Int)≤o.path.length:=by omega
   by_cases g5 : o.path.take b.a.length = b.a
   ·simp -implicitDefEqProofs [jj,u1,u2,g1,fO,g2,g3,g4,u9,Lib.extract_mk,eq_true g5]
   ·simp -implicitDefEqProofs [jj,u1,u2,g1,fO,g2,g3,g4,u9,Lib.extract_mk,eq_false g5]
  ·have u9 : ¬ (b.a.length : Int)≤o.path.length:=by omega
   simp -implicitDefEqProofs [jj,u1,u2,g1,fO,g2,g3,g4,u9]
 generalize (cP o.resp.fields b.a).isSome = b3 at u3
 cases b3
 all_goals
 simp -implicitDefEqProofs [jj,u1,u2,u3,g1,fO,g2,g3]
 all_goals (repeat' split) <;> first | rfl | omega | (simp_all; done) | (simp_all; omega) | skip
theorem Ju (b : Bn) (o : Ob) (h1 : aH b≤1073741824) (h2 : b7 o≤1073741824) : ev LI TT 145 [.agg (aM b),.agg (cu .af o)] = some (.bool (iy b o),[.dead,.dead]):=by
 rw [az (b:=kA) (rs:=[.t 4]) (n:=2) rfl rfl]
 have hw : aH b = b.a.length + b.b.length:=rfl
 have lO : b7 o = o.path.length + wL wS o.names + wL wS o.values + ct o.resp:=rfl
 have Pw : ct o.resp = wL aU o.resp.fields + o.resp.body.length:=rfl
 have l1:=br (w:=aU) o.resp.fields
 unfold iy
 rw [E6,show b.a.isPrefixOf o.path = Lib.hasPrefix o.path b.a from rfl]
 have u1:=uG  b h1
 try simp at u1
 have u2:=Dt  o (by omega)
 try simp at u2
 have u3:=Ds  o.resp.fields b.a (by omega)
 try simp at u3
 have u4:=K3  o.path b.a
 try simp at u4
 by_cases g1 : o.t≤b.t
 rotate_left
 ·have fO : b.t < o.t:=by omega
  simp -implicitDefEqProofs [kA,u1,u2,g1,fO]
 have fO : ¬ b.t < o.t:=by omega
 generalize dj b = b1 at u1
 cases b1
 ·simp -implicitDefEqProofs [kA,u1,g1,fO]
 generalize je o = b2 at u2
 cases b2
 ·simp -implicitDefEqProofs [kA,u1,u2,g1,fO]
 by_cases g2 : b.kind = 1
 ·rw [g2] at u1
  simp -implicitDefEqProofs [kA,u1,u2,g1,fO,g2]
 by_cases g3 : b.kind = 2
 ·rw [g3] at u1
  simp -implicitDefEqProofs [kA,u1,u2,u4,g1,fO,g2,g3]
 generalize (cP o.resp.fields b.a).isSome = b3 at u3
 cases b3
 all_goals
 simp -implicitDefEqProofs [kA,u1,u2,u3,u4,g1,fO,g2,g3]
 all_goals (repeat' split) <;> first | rfl | omega | (simp_all; done) | (simp_all; omega) | skip
theorem Fq (l : List Bn) (o : Ob) : aS (fun b=>!iy b o) l = !gu l o:=by
 unfold gu aS
 induction l with
 | nil=>rfl
 | cons b l ih=>simp only [List.all_cons,List.any_cons,ih,Bool.not_or]
theorem Iu (l : List Bn) (o : Ob) (h1 : wL aH l≤1073741824) (h2 : b7 o≤1073741824) : aK (ai (ev LI TT) (ak TT) tq) [(0,.row .af 4 (l.map aM)),(3,.ptr .own (cu .af o)),(5,.int .i64 0)] = if aS (fun b=>!iy b o) (l) = true then some (.exit 0,[(0,.row .af 4 (l.map aM)),(3,.ptr .own (cu .af o)),(5,.int .i64 (l).length),(9,.bool false)]) else some (.ret,[(4,.bool true)]):=by
 refine cN (f:=ai (ev LI TT) (ak TT) tq) (l) (fun i=>[(0,.row .af 4 (l.map aM)),(3,.ptr .own (cu .af o)),(5,.int .i64 i)]) (fun b=>!iy b o) _ _ (fun i b hi hl=>?_) ?_
 ·have hw:=aT i (by have:=br (w:=aH) l; omega)
  obtain ⟨_,rfl⟩:=List.getElem?_eq_some_iff.1 hi
  have hm:=yx (List.getElem_mem hl)
  have u1:=KD l[i] o (by omega) h2
  try simp at u1
  cases hh : iy l[i] o <;> rw [hh] at u1
  all_goals
  simp -implicitDefEqProofs [tq,Cd,hl,hw,u1,hh]
  all_goals (repeat' split) <;> first | rfl | omega | (simp_all; done) | (simp_all; omega) | skip
 ·simp -implicitDefEqProofs [tq,Cd]
theorem KE (l : List Bn) (o : Ob) (h1 : wL aH l≤1073741824) (h2 : b7 o≤1073741824) : ev LI TT 56 [.row .af 4 (l.map aM),.agg (cu .af o)] = some (.bool (gu l o),[.dead,.dead]):=by
 rw [az (b:=xu) (rs:=[.t 4]) (n:=2) rfl rfl]
 have u1:=Iu  l o h1 h2
 try simp at u1
 rw [Fq] at u1
 cases hh : gu l o <;> rw [hh] at u1
 all_goals try simp at u1
 all_goals
 simp -implicitDefEqProofs [xu,u1]
 all_goals (repeat' split) <;> first | rfl | omega | (simp_all; done) | (simp_all; omega) | skip
theorem HF (l : List Bn) (o : Ob) (h1 : wL aH l≤1073741824) (h2 : b7 o≤1073741824) : aK (ai (ev LI TT) (ak TT) rI) [(0,.row .af 4 (l.map aM)),(3,.ptr .own (cu .af o)),(7,.row .af 4 (l.map aM)),(8,.int .i64 l.length),(9,.int .i64 0)] = if aS (fun b=>!iy b o) (l) = true then some (.exit 0,[(0,.row .af 4 (l.map aM)),(3,.ptr .own (cu .af o)),(7,.row .af 4 (l.map aM)),(8,.int .i64 l.length),(9,.int .i64 (l).length),(10,.bool false)]) else some (.ret,[(4,.bool true)]):=by
 refine cN (f:=ai (ev LI TT) (ak TT) rI) (l) (fun i=>[(0,.row .af 4 (l.map aM)),(3,.ptr .own (cu .af o)),(7,.row .af 4 (l.map aM)),(8,.int .i64 l.length),(9,.int .i64 i)]) (fun b=>!iy b o) _ _ (fun i b hi hl=>?_) ?_
 ·have hw:=aT i (by have:=br (w:=aH) l; omega)
  obtain ⟨_,rfl⟩:=List.getElem?_eq_some_iff.1 hi
  have hm:=yx (List.getElem_mem hl)
  have u1:=Ju l[i] o (by omega) h2
  try simp at u1
  cases hh : iy l[i] o <;> rw [hh] at u1
  all_goals
  simp -implicitDefEqProofs [rI,Aq,hl,hw,u1,hh]
  all_goals (repeat' split) <;> first | rfl | omega | (simp_all; done) | (simp_all; omega) | skip
 ·simp -implicitDefEqProofs [rI,Aq]
theorem Jv (l : List Bn) (o : Ob) (h1 : wL aH l≤1073741824) (h2 : b7 o≤1073741824) : ev LI TT 61 [.row .af 4 (l.map aM),.agg (cu .af o)] = some (.bool (gu l o),[.dead,.dead]):=by
 rw [az (b:=vB) (rs:=[.t 4]) (n:=2) rfl rfl]
 have u1:=HF  l o h1 h2
 try simp at u1
 rw [Fq] at u1
 cases hh : gu l o <;> rw [hh] at u1
 all_goals try simp at u1
 all_goals
 simp -implicitDefEqProofs [vB,u1]
 all_goals (repeat' split) <;> first | rfl | omega | (simp_all; done) | (simp_all; omega) | skip
end M
namespace M
open Go
end M
set_option maxHeartbeats 4000000
namespace M
open Go
theorem DJ (o : Ob) (hb : b7 o≤1073741824) : ev LI TT 91 [.agg (cu .af o)] = some (.agg (cu .own o),[.dead]):=by
 rw [az (b:=xE) (rs:=[.c 2 7 true 61]) (n:=1) rfl rfl]
 have hw : b7 o = o.path.length + wL wS o.names + wL wS o.values + ct o.resp:=rfl
 have lO : ct o.resp = wL aU o.resp.fields + o.resp.body.length:=rfl
 have l1:=br (w:=aU) o.resp.fields
 have l2:=br (w:=wS) o.names
 have l3:=br (w:=wS) o.values
 have u1:=KT  o.resp (by omega)
 try simp at u1
 simp -implicitDefEqProofs [xE,u1,x8,rowAt,(by omega : o.names.length * 16≤140737488355328),(by omega : o.values.length * 16≤140737488355328)]
 all_goals (repeat' split) <;> first | rfl | omega | (simp_all; done) | (simp_all; omega) | skip
theorem JM (o : Ob) (hb : b7 o≤1073741824) : ev LI TT 183 [.agg (cu .af o)] = some (.agg (cu .own o),[.dead]):=by
 rw [az (b:=vQ) (rs:=[.c 2 7 true 61]) (n:=1) rfl rfl]
 have hw : b7 o = o.path.length + wL wS o.names + wL wS o.values + ct o.resp:=rfl
 have lO : ct o.resp = wL aU o.resp.fields + o.resp.body.length:=rfl
 have l1:=br (w:=aU) o.resp.fields
 have l2:=br (w:=wS) o.names
 have l3:=br (w:=wS) o.values
 have u1:=JN  o.resp (by omega)
 try simp at u1
 have u2:=AK o.names (by omega)
 try simp at u2
 have u3:=AK o.values (by omega)
 try simp at u3
 simp -implicitDefEqProofs [vQ,u1,u2,u3]
 all_goals (repeat' split) <;> first | rfl | omega | (simp_all; done) | (simp_all; omega) | skip
end M
set_option maxHeartbeats 4000000
namespace M
open Go
structure Cc where
 ns : Bool
 nc : Bool
 pr : Bool
 mu : Bool
 ha : Bool
 I5 : Int
@[simp] def Wo (c : Cc) : List X:=[.bool c.ns,.bool c.nc,.bool c.pr,.bool c.mu,.bool c.ha,.int .i64 c.I5]
end M
set_option maxHeartbeats 4000000
namespace M
open Go
end M
set_option maxHeartbeats 4000000
namespace M
open Go
end M
set_option maxHeartbeats 4000000
namespace M
open Go
end M
set_option maxHeartbeats 4000000
namespace M
open Go
theorem DK (d : bW) (h1 : d.cells.length≤1073741824) (h2 : d.pending.length≤1073741824) : ev LI TT 126 [.agg (cq .af d)] = some (.agg (cq .own d),[.dead]):=by
 rw [az (b:=xF) (rs:=[.c 2 2 true 39]) (n:=1) rfl rfl]
 simp -implicitDefEqProofs [xF,x8,GD,rowAt,(by omega : d.cells.length * 16≤140737488355328),(by omega : d.pending.length * 24≤140737488355328),xG,Co,xH,Cp,Cq,Cr]
 all_goals (repeat' split) <;> first | rfl | omega | (simp_all; done) | (simp_all; omega) | skip
theorem JK (d : bW) (h1 : d.cells.length≤1073741824) (h2 : d.pending.length≤1073741824) : ev LI TT 131 [.agg (cq .af d)] = some (.agg (cq .own d),[.dead]):=by
 rw [az (b:=vO) (rs:=[.c 2 2 true 39]) (n:=1) rfl rfl]
 have u1:=AK d.cells h1
 try simp at u1
 have u2:=PZ d.pending h2
 try simp at u2
 simp -implicitDefEqProofs [vO,u1,u2]
 all_goals (repeat' split) <;> first | rfl | omega | (simp_all; done) | (simp_all; omega) | skip
def yM (ws : List Wr) : Prop:=∀ w∈ws,0≤w.at_∧w.at_≤19
theorem kH {d : bW} (h : dc d = true) : yM d.pending∧d.cells.length = 20∧d.pending.length≤16:=by
 simp only [dc,Bool.and_eq_true,decide_eq_true_eq] at h
 refine ⟨fun w hw=>?_,by omega,by omega⟩
 simpa [jI] using yL.1 h.1.1 w hw
def dS (d : bW) : bW:=⟨ny (gN [] true) d.cells d.pending,[]⟩
theorem IJ (d : bW) (keep : List Bool) (all : Bool) (hb : d.pending.length≤9223372036854775807) (ho : yM d.pending) (hk : keep.length≤9223372036854775807) (cs : List ah) (hinv : cs.length = 20) : aK (ai (ev LI TT) (ak TT) nO) [(1,.row .af 1 (keep.map eB)),(2,.bool all),(3,.ptr .own (cq .af d)),(6,.ptr .own [.row .own 1 [],.row .own 2 []]),(7,.ptr .own [.row .own 1 ((cs).map eS),.row .own 2 []]),(8,.int .i64 0)] = some (.exit 0,[(1,.row .af 1 (keep.map eB)),(2,.bool all),(3,.ptr .own (cq .af d)),(6,.ptr .own [.row .own 1 [],.row .own 2 []]),(7,.ptr .own [.row .own 1 (((foldI (fC (gN keep all)) 0 (d.pending) cs)).map eS),.row .own 2 []]),(8,.int .i64 (d.pending).length),(18,.bool false)]):=by
 refine o7 (f:=ai (ev LI TT) (ak TT) nO) (d.pending) (fun i (cs : List ah)=>[(1,.row .af 1 (keep.map eB)),(2,.bool all),(3,.ptr .own (cq .af d)),(6,.ptr .own [.row .own 1 [],.row .own 2 []]),(7,.ptr .own [.row .own 1 ((cs).map eS),.row .own 2 []]),(8,.int .i64 i)]) (fC (gN keep all)) (fun cs=>[(1,.row .af 1 (keep.map eB)),(2,.bool all),(3,.ptr .own (cq .af d)),(6,.ptr .own [.row .own 1 [],.row .own 2 []]),(7,.ptr .own [.row .own 1 ((cs).map eS),.row .own 2 []]),(8,.int .i64 (d.pending).length),(18,.bool false)]) (fun i (cs : List ah)=>cs.length = 20) cs hinv (fun i b cs hi hl hinv=>?_) (fun i b cs hi hinv=>?_) (fun cs hinv=>?_)
 ·have hw:=aT i (by first | omega | (simp at hl; omega))
  obtain ⟨_,rfl⟩:=List.getElem?_eq_some_iff.1 hi
  have h1:=ho _ (List.getElem_mem hl)
  have h2 : (d.pending[i]).at_.toNat < cs.length:=by omega
  cases all
  ·by_cases h4 : i < keep.length
   ·cases h5 : keep[i] <;> simp -implicitDefEqProofs [nO,tH,hl,hw,h1,h2,fC,gN,h4,h5]
   ·simp -implicitDefEqProofs [nO,tH,hl,hw,h1,h2,fC,gN,h4]
  simp -implicitDefEqProofs [nO,tH,hl,hw,h1,h2,fC,gN]
 ·rw [Bz]; exact hinv
 ·simp -implicitDefEqProofs [nO,tH]
theorem KN (d : bW) (keep : List Bool) (all : Bool) (h : dc d = true) (hk : keep.length≤9223372036854775807) : ev LI TT 190 [.agg (cq .af d),.row .af 1 (keep.map eB),.bool all] = some (.agg (cq .own (⟨ny (gN keep all) d.cells d.pending,[]⟩)),[.dead,.dead,.dead]):=by
 rw [az (b:=xI) (rs:=[.c 6 2 true 39]) (n:=3) rfl rfl]
 obtain ⟨h0,h1,h1'⟩:=kH h
 have h2:=IJ d keep all (by omega) h0 hk d.cells h1
 try simp at h2
 simp -implicitDefEqProofs [xI,h1,h2,ny,x8,rowAt]
 all_goals (repeat' split) <;> first | rfl | omega | (simp_all; done) | (simp_all; omega) | skip
theorem DF (d : bW) (h : dc d = true) : ev LI TT 99 [.agg (cq .af d)] = some (.agg (cq .own (dS d)),[.dead]):=by
 rw [az (b:=xq) (rs:=[.c 2 2 true 39]) (n:=1) rfl rfl]
 obtain ⟨h0,h1,h1'⟩:=kH h
 have h2:=za d (by omega)
 have h3:=KN d [] true h (by simp)
 rw [h] at h2
 try simp at h2
 try simp at h3
 simp -implicitDefEqProofs [xq,h2,h3,dS]
 all_goals (repeat' split) <;> first | rfl | omega | (simp_all; done) | (simp_all; omega) | skip
theorem HD (ws : List Wr) (hb : ws.length≤9223372036854775807) (ho : yM ws) (cs : List ah) (hinv : cs.length = 20) : aK (ai (ev LI TT) (ak TT) rG) [(0,.ax 100000 [] 0 0),(4,.ax 100000 [] 0 0),(5,.ax 100000 [] 0 0),(6,.ax 100000 [] 0 1),(7,.ref 100000 [(0,1)]),(8,.int .i64 ws.length),(9,.int .i64 0),(100000,.ptr .own [.row .own 1 ((cs).map eS),.row .own 2 (ws.map eW)])] = some (.exit 0,[(0,.ax 100000 [] 0 0),(4,.ax 100000 [] 0 0),(5,.ax 100000 [] 0 0),(6,.ax 100000 [] 0 1),(7,.ref 100000 [(0,1)]),(8,.int .i64 ws.length),(9,.int .i64 (ws).length),(10,.bool false),(100000,.ptr .own [.row .own 1 (((foldI (fC (gN [] true)) 0 (ws) cs)).map eS),.row .own 2 (ws.map eW)])]):=by
 refine o7 (f:=ai (ev LI TT) (ak TT) rG) (ws) (fun i (cs : List ah)=>[(0,.ax 100000 [] 0 0),(4,.ax 100000 [] 0 0),(5,.ax 100000 [] 0 0),(6,.ax 100000 [] 0 1),(7,.ref 100000 [(0,1)]),(8,.int .i64 ws.length),(9,.int .i64 i),(100000,.ptr .own [.row .own 1 ((cs).map eS),.row .own 2 (ws.map eW)])]) (fC (gN [] true)) (fun cs=>[(0,.ax 100000 [] 0 0),(4,.ax 100000 [] 0 0),(5,.ax 100000 [] 0 0),(6,.ax 100000 [] 0 1),(7,.ref 100000 [(0,1)]),(8,.int .i64 ws.length),(9,.int .i64 (ws).length),(10,.bool false),(100000,.ptr .own [.row .own 1 ((cs).map eS),.row .own 2 (ws.map eW)])]) (fun i (cs : List ah)=>cs.length = 20) cs hinv (fun i b cs hi hl hinv=>?_) (fun i b cs hi hinv=>?_) (fun cs hinv=>?_)
 ·have hw:=aT i (by first | omega | (simp at hl; omega))
  obtain ⟨_,rfl⟩:=List.getElem?_eq_some_iff.1 hi
  have h1:=ho _ (List.getElem_mem hl)
  have h2 : (ws[i]).at_.toNat < cs.length:=by omega
  simp -implicitDefEqProofs [rG,Ap,hl,hw,h1,h2,fC,gN]
 ·rw [Bz]; exact hinv
 ·simp -implicitDefEqProofs [rG,Ap]
theorem Dr (d : bW) (h : dc d = true) : ev LI TT 196 [.ptr .own (cq .own d)] = some (.au [],[.ptr .own (cq .own (dS d))]):=by
 rw [az (b:=vz) (rs:=[]) (n:=1) rfl rfl]
 obtain ⟨h0,h1,h1'⟩:=kH h
 have h2:=HD d.pending (by omega) h0 d.cells h1
 try simp at h2
 simp -implicitDefEqProofs [vz,h1,h2,ny,dS]
 all_goals (repeat' split) <;> first | rfl | omega | (simp_all; done) | (simp_all; omega) | skip
theorem DE (d : bW) (at_ : Int) (t : ah) (h : dc d = true) (ha : 0≤at_∧at_≤19) (hp : d.pending.length < 16) : ev LI TT 186 [.agg (cq .af d),.int .i64 at_,.str ⟨t.toArray⟩] = some (.au [.agg (cq .own (⟨d.cells,d.pending ++ [⟨at_,t⟩]⟩)),.bool true],[.dead,.dead,.dead]):=by
 rw [az (b:=xo) (rs:=[.c 6 2 true 39,.t 7]) (n:=3) rfl rfl]
 obtain ⟨h0,h1,h1'⟩:=kH h
 have h2:=za d (by omega)
 have h3:=DK d (by omega) (by omega)
 rw [h] at h2
 try simp at h2
 try simp at h3
 have h4 : ¬ (d.pending.length : Int) = 16:=by omega
 have h5 : (d.pending.length + 1) * 24≤140737488355328:=by omega
 simp -implicitDefEqProofs [xo,h2,h3,h4,h5,ha,dN,rowAt]
 all_goals (repeat' split) <;> first | rfl | omega | (simp_all; done) | (simp_all; omega) | skip
def gB (d : bW) (a : Int) (t : ah) : bW:=if 16≤(d.pending.length : Int) then ⟨(dS d).cells,[⟨a,t⟩]⟩ else ⟨d.cells,d.pending ++ [⟨a,t⟩]⟩
def pK (s : Sh) (a : Int) (t : ah) : Sh:=⟨gB s.aG a t,s.ay,s.aD,s.next,s.seq⟩
theorem EO {d : bW} (h : dc d = true) : dc (dS d) = true:=by
 obtain ⟨h0,h1,h1'⟩:=kH h
 have:=P3 (gN [] true) d.cells d.pending
 unfold dc dS
 simp only [this,h1]
 rfl
theorem KP (s : Sh) (at_ : Int) (t : ah) (h : dc s.aG = true) (ha : 0≤at_∧at_≤19) : ev LI TT 96 [.agg (aY .own s),.int .i64 at_,.str ⟨t.toArray⟩] = some (.agg (aY .own (pK s at_ t)),[.dead,.dead,.dead]):=by
 rw [az (b:=tQ) (rs:=[.c 6 6 true 43]) (n:=3) rfl rfl]
 obtain ⟨h0,h1,h1'⟩:=kH h
 have h2:=DF s.aG h
 try simp at h2
 unfold pK gB
 by_cases g : (s.aG.pending.length : Int) = 16
 ·have h3:=DE (dS s.aG) at_ t (EO h) ha (by simp [dS])
  try simp [dS] at h3
  have g2 : (16 : Int)≤s.aG.pending.length:=by omega
  simp -implicitDefEqProofs [tQ,h2,h3,g,dS]
 have h3:=DE s.aG at_ t h ha (by omega)
 try simp at h3
 have g2 : ¬ (16 : Int)≤s.aG.pending.length:=by omega
 simp -implicitDefEqProofs [tQ,h3,g,g2]
 all_goals (repeat' split) <;> first | rfl | omega | (simp_all; done) | (simp_all; omega) | skip
theorem JF (s : Sh) (at_ : Int) (t : ah) (h : dc s.aG = true) : ev LI TT 193 [.ptr .own (aY .own s),.int .i64 at_,.str ⟨t.toArray⟩] = some (.au [],[.ptr .own (aY .own (pK s at_ t)),.dead,.dead]):=by
 rw [az (b:=rN) (rs:=[]) (n:=3) rfl rfl]
 obtain ⟨h0,h1,h1'⟩:=kH h
 have h2:=Dr s.aG h
 try simp at h2
 have h5 : (s.aG.pending.length + 1) * 24≤140737488355328:=by omega
 unfold pK gB
 by_cases g2 : (16 : Int)≤s.aG.pending.length
 ·simp -implicitDefEqProofs [rN,h2,g2,dN,dS]
 simp -implicitDefEqProofs [rN,h5,g2,dN]
 all_goals (repeat' split) <;> first | rfl | omega | (simp_all; done) | (simp_all; omega) | skip
end M
set_option maxHeartbeats 4000000
namespace M
open Go
theorem HO (ks : List Kp) (hb : wL aR ks≤1073741824) : aK (ai (ev LI TT) (ak TT) rS) [(0,.row .af 9 (ks.map (aB .af))),(3,.row .own 9 (([]).map (aB .own))),(6,.row .af 9 (ks.map (aB .af))),(7,.int .i64 ks.length),(8,.int .i64 0)] = some (.exit 0,[(0,.row .af 9 (ks.map (aB .af))),(3,.row .own 9 ((((ks).flatMap (fun k=>[k]))).map (aB .own))),(6,.row .af 9 (ks.map (aB .af))),(7,.int .i64 ks.length),(8,.int .i64 (ks).length),(9,.bool false)]):=by
 refine o6 (f:=ai (ev LI TT) (ak TT) rS) (ks) (fun k=>[k]) (fun i out=>[(0,.row .af 9 (ks.map (aB .af))),(3,.row .own 9 ((out).map (aB .own))),(6,.row .af 9 (ks.map (aB .af))),(7,.int .i64 ks.length),(8,.int .i64 i)]) (fun out=>[(0,.row .af 9 (ks.map (aB .af))),(3,.row .own 9 ((out).map (aB .own))),(6,.row .af 9 (ks.map (aB .af))),(7,.int .i64 ks.length),(8,.int .i64 (ks).length),(9,.bool false)]) (fun i b out hi hl hout=>?_) (fun out hout=>?_)
 ·have hw:=aT i (by have:=br (w:=aR) ks; omega)
  obtain ⟨_,rfl⟩:=List.getElem?_eq_some_iff.1 hi
  have hlk:=br (w:=aR) ks
  have hm:=p9 (List.getElem_mem hl)
  have hlo : out.length = i:=by rw [hout]; exact u0 (fun k=>k) _ _ (by omega)
  have hlz : (i + 1) * 136≤140737488355328:=by omega
  have u1:=JM  (ks[i]).obj (by omega)
  try simp at u1
  simp -implicitDefEqProofs [rS,AA,hl,hw,u1,hlo,hlz,dN]
 ·simp -implicitDefEqProofs [rS,AA]
theorem JL (ks : List Kp) (hb : wL aR ks≤1073741824) : ev LI TT 191 [.row .af 9 (ks.map (aB .af))] = some (.row .own 9 (ks.map (aB .own)),[.dead]):=by
 rw [az (b:=vP) (rs:=[.t 2]) (n:=1) rfl rfl]
 have u1:=HO  ks hb
 try simp at u1
 simp -implicitDefEqProofs [vP,u1]
 all_goals (repeat' split) <;> first | rfl | omega | (simp_all; done) | (simp_all; omega) | skip
theorem JO (s : Sh) (hb : bA s≤1073741824) : ev LI TT 100 [.agg (aY .af s)] = some (.agg (aY .own s),[.dead]):=by
 rw [az (b:=vS) (rs:=[.c 2 6 true 43]) (n:=1) rfl rfl]
 have fA : bA s = bJ s.aG + wL aR s.ay + wL aH s.aD:=rfl
 have Al : bJ s.aG = wL wS s.aG.cells + wL bk s.aG.pending:=rfl
 have l1:=br (w:=wS) s.aG.cells
 have l2:=br (w:=bk) s.aG.pending
 have l3:=br (w:=aH) s.aD
 have u1:=JK  s.aG (by omega) (by omega)
 try simp at u1
 have u2:=JL  s.ay (by omega)
 try simp at u2
 have u3:=PX s.aD (by omega)
 try simp at u3
 simp -implicitDefEqProofs [vS,u1,u2,u3]
 all_goals (repeat' split) <;> first | rfl | omega | (simp_all; done) | (simp_all; omega) | skip
theorem IK (s : Sh) (hb : bA s≤1073741824) : aK (ai (ev LI TT) (ak TT) tJ) [(1,.ptr .own (aY .af s)),(2,.ptr .own [.row .own 1 [],.row .own 2 [],.row .own 9 [],.row .own 4 [],.int .i64 0,.int .i64 0]),(3,.ptr .own [.row .own 1 (s.aG.cells.map eS),.row .own 2 (s.aG.pending.map eW),.row .own 9 (([]).map (aB .own)),.row .own 4 (s.aD.map aM),.int .i64 s.next,.int .i64 s.seq]),(4,.int .i64 0)] = some (.exit 0,[(1,.ptr .own (aY .af s)),(2,.ptr .own [.row .own 1 [],.row .own 2 [],.row .own 9 [],.row .own 4 [],.int .i64 0,.int .i64 0]),(3,.ptr .own [.row .own 1 (s.aG.cells.map eS),.row .own 2 (s.aG.pending.map eW),.row .own 9 ((((s.ay).flatMap (fun k=>[k]))).map (aB .own)),.row .own 4 (s.aD.map aM),.int .i64 s.next,.int .i64 s.seq]),(4,.int .i64 (s.ay).length),(21,.bool false)]):=by
 refine o6 (f:=ai (ev LI TT) (ak TT) tJ) (s.ay) (fun k=>[k]) (fun i out=>[(1,.ptr .own (aY .af s)),(2,.ptr .own [.row .own 1 [],.row .own 2 [],.row .own 9 [],.row .own 4 [],.int .i64 0,.int .i64 0]),(3,.ptr .own [.row .own 1 (s.aG.cells.map eS),.row .own 2 (s.aG.pending.map eW),.row .own 9 ((out).map (aB .own)),.row .own 4 (s.aD.map aM),.int .i64 s.next,.int .i64 s.seq]),(4,.int .i64 i)]) (fun out=>[(1,.ptr .own (aY .af s)),(2,.ptr .own [.row .own 1 [],.row .own 2 [],.row .own 9 [],.row .own 4 [],.int .i64 0,.int .i64 0]),(3,.ptr .own [.row .own 1 (s.aG.cells.map eS),.row .own 2 (s.aG.pending.map eW),.row .own 9 ((out).map (aB .own)),.row .own 4 (s.aD.map aM),.int .i64 s.next,.int .i64 s.seq]),(4,.int .i64 (s.ay).length),(21,.bool false)]) (fun i b out hi hl hout=>?_) (fun out hout=>?_)
 ·have hw:=aT i (by have fA : bA s = bJ s.aG + wL aR s.ay + wL aH s.aD:=rfl; have:=br (w:=aR) s.ay; omega)
  obtain ⟨_,rfl⟩:=List.getElem?_eq_some_iff.1 hi
  have fA : bA s = bJ s.aG + wL aR s.ay + wL aH s.aD:=rfl
  have hlk:=br (w:=aR) s.ay
  have hm:=p9 (List.getElem_mem hl)
  have hlo : out.length = i:=by rw [hout]; exact u0 (fun k=>k) _ _ (by omega)
  have hlz : (i + 1) * 136≤140737488355328:=by omega
  have u1:=DJ  (s.ay[i]).obj (by omega)
  try simp at u1
  simp -implicitDefEqProofs [tJ,Cu,hl,hw,u1,hlo,hlz,dN]
 ·simp -implicitDefEqProofs [tJ,Cu]
theorem RT (l : List Bn) : cF (l.map aM) = true:=by induction l <;> simp_all [cF,scalar]
theorem KO (s : Sh) (hb : bA s≤1073741824) : ev LI TT 95 [.agg (aY .af s)] = some (.agg (aY .own s),[.dead]):=by
 rw [az (b:=xK) (rs:=[.c 2 6 true 43]) (n:=1) rfl rfl]
 have fA : bA s = bJ s.aG + wL aR s.ay + wL aH s.aD:=rfl
 have Al : bJ s.aG = wL wS s.aG.cells + wL bk s.aG.pending:=rfl
 have l1:=br (w:=wS) s.aG.cells
 have l2:=br (w:=bk) s.aG.pending
 have l3:=br (w:=aH) s.aD
 have u1:=DK  s.aG (by omega) (by omega)
 try simp at u1
 have u2:=IK  s hb
 try simp at u2
 simp -implicitDefEqProofs [xK,u1,u2,RT,rowAt,(by omega : s.aD.length * 48≤140737488355328),Cv,tK,xQ,CF,pR,tN,CH,tO,xV,tP,xL,xM,Cw,tL,xN,xO,Cx,xP,Cy,Cz,tM,xR,xS,CA,xT,CB,CC,xU,CD,CE,CG]
 all_goals (repeat' split) <;> first | rfl | omega | (simp_all; done) | (simp_all; omega) | skip
end M
set_option maxHeartbeats 4000000
namespace M
open Go
structure Pl (A : List X) : Prop where
 o : ∀ ks,X.jK ks A = A
 k : ∀ r p,X.dD r p A = A
 m : X.cB .af A = A
 b : X.bare.eJ A = true
def kP (z : X) (s : Sh) : List X:=[.row .af 1 (s.aG.cells.map eS),.row .af 2 (s.aG.pending.map eW),z,.row .af 4 (s.aD.map aM),.int .i64 s.next,.int .i64 s.seq]
theorem JC (k : Kp) (z : X) (s : Sh) (hk : b7 k.obj≤1073741824) (hs : wL aH s.aD≤1073741824) : ev LI TT 198 [.agg (aB .af k),.ptr .af [.ptr .af (kP z s)]] = some (.bool (gu s.aD k.obj),[.dead,.dead]):=by
 rw [az (b:=vD) (rs:=[.t 3]) (n:=2) rfl rfl]
 have u1:=Jv  s.aD k.obj hs hk
 try simp at u1
 simp -implicitDefEqProofs [vD,u1,kP]
 all_goals (repeat' split) <;> first | rfl | omega | (simp_all; done) | (simp_all; omega) | skip
theorem HA (l : List Kp) (A : List X) (hA : Pl A) (gf : Nat) (p : Kp→Bool) (ho : ak TT gf = true) (hf : ∀ x∈l,ev LI TT gf [.agg (aB .af x),.ptr .af A] = some (.bool (p x),[.dead,.dead])) (hb : l.length≤9223372036854775807) : aK (ai (ev LI TT) (ak TT) kS) [(0,.row .af 9 (l.map (aB .af))),(1,.fn gf [.ptr .af A]),(7,.int .i64 l.length),(8,.int .i64 0)] = (cA p 0 (l)).elim (some (.exit 0,[(0,.row .af 9 (l.map (aB .af))),(1,.fn gf [.ptr .af A]),(7,.int .i64 l.length),(8,.int .i64 (l).length),(9,.bool false)])) fun x=>some (.ret,(fun (i : Nat) b=>[(4,.int .i64 i)]) x.1 x.2):=by
 refine sP (f:=ai (ev LI TT) (ak TT) kS) (l) (fun i=>[(0,.row .af 9 (l.map (aB .af))),(1,.fn gf [.ptr .af A]),(7,.int .i64 l.length),(8,.int .i64 i)]) p (fun (i : Nat) b=>[(4,.int .i64 i)]) _ (fun i b hi hl=>?_) ?_
 ·have hw:=aT i (by first | omega | (simp at hl; omega))
  obtain ⟨_,rfl⟩:=List.getElem?_eq_some_iff.1 hi
  have u1:=hf l[i] (List.getElem_mem hl)
  try simp at u1
  simp -implicitDefEqProofs [kS,uo,hl,hw,u1,ho,nq,hA.o,hA.k,hA.m,hA.b]
  all_goals (repeat' split) <;> first | rfl | omega | (simp_all; done) | (simp_all; omega) | skip
 ·simp -implicitDefEqProofs [kS,uo,hA.o,hA.k,hA.m,hA.b]
theorem Jp (l : List Kp) (A : List X) (hA : Pl A) (gf : Nat) (p : Kp→Bool) (ho : ak TT gf = true) (hf : ∀ x∈l,ev LI TT gf [.agg (aB .af x),.ptr .af A] = some (.bool (p x),[.dead,.dead])) (hb : l.length≤9223372036854775807) : ev LI TT 268 [.row .af 9 (l.map (aB .af)),.fn gf [.ptr .af A]] = some (.int .i64 ((cA p 0 l).elim (-1) fun x=>(x.1 : Int)),[.dead,.dead]):=by
 rw [az (b:=mg) (rs:=[.t 4]) (n:=2) rfl rfl]
 have u1:=HA  l A hA gf p ho hf hb
 try simp at u1
 cases g : cA p 0 l with
 | none=>rw [g] at u1; simp at u1; simp -implicitDefEqProofs [mg,u1,hA.o,hA.k,hA.m,hA.b]
 | some x =>
 rw [g] at u1
 simp at u1
 simp -implicitDefEqProofs [mg,u1,hA.o,hA.k,hA.m,hA.b]
 all_goals (repeat' split) <;> first | rfl | omega | (simp_all; done) | (simp_all; omega) | skip
end M
set_option maxHeartbeats 400000
namespace M
open Go
theorem F3 {α : Type} (T : List α) (n : Nat) (a : α) (h : T[n]? = some a) (g : α→α) : T.modify n g = T.set n (g a):=by
 apply List.ext_getElem?
 intro j
 rw [List.getElem?_modify,List.getElem?_set]
 by_cases e : n = j
 ·subst e
  obtain ⟨hi,hh⟩:=List.getElem?_eq_some_iff.1 h
  have hg : T[n] = a:=hh
  simp [hg,hi]
 ·simp [e]
theorem GH {α : Type} (T : List α) (n : Nat) (a : α) (g : α→α) : (T.set n a).modify n g = T.set n (g a):=by
 apply List.ext_getElem?
 intro j
 rw [List.getElem?_modify,List.getElem?_set,List.getElem?_set]
 by_cases e : n = j
 ·subst e
  by_cases h : n < T.length <;> simp [h]
 ·simp [e]
def ia (k : Kp) : List X:=[.str ⟨k.obj.path.toArray⟩,.dead,.dead,.int .i64 k.obj.resp.status,.dead,.str ⟨k.obj.resp.body.toArray⟩,.int .i64 k.obj.t,.int .i64 k.at_,.int .i64 k.seq]
def ic {α β : Type} (p : α→Bool) (d : α→β) (g : List α×List β) (v : α) : List α×List β:=if p v = true then (g.1,g.2 ++ [d v]) else (g.1 ++ [v],g.2.tail ++ [d v])
theorem Eh {α β : Type} (p : α→Bool) (d : α→β) : ∀ (l : List α) (i : Nat) (g : List α×List β),(foldI (fun _ g v=>ic p d g v) i l g).1 = g.1 ++ l.filter (fun v=>!p v)
 | [],i,g=>by simp [foldI]
 | v :: l,i,g=>by
  rw [foldI,Eh p d l]
  unfold ic
  cases h : p v <;> simp [h]
structure DX {α β : Type} (e d : α→β) (n : Nat) (g : List α×List β) : Prop where
 n : g.1.length + g.2.length = n
 m : 1≤g.2.length
 r : ∀ x∈g.2,∃ u,x = e u∨x = d u
theorem DX.go {α β : Type} {e d : α→β} {n : Nat} {g : List α×List β} (h : DX e d n g) (p : α→Bool) (v : α) : DX e d (n + 1) (ic p d g v):=by
 obtain ⟨F,M⟩:=g
 have hn:=h.n
 have hm:=h.m
 have hr:=h.r
 simp at hn hm hr
 unfold ic
 split
 ·refine ⟨by simp; omega,by simp,fun x hx=>?_⟩
  rcases List.mem_append.1 hx with hx | hx
  ·exact hr x hx
  ·exact ⟨v,.inr (by simpa using hx)⟩
 ·refine ⟨by simp; omega,by simp,fun x hx=>?_⟩
  rcases List.mem_append.1 hx with hx | hx
  ·exact hr x (List.mem_of_mem_tail hx)
  ·exact ⟨v,.inr (by simpa using hx)⟩
theorem DX.row {α β : Type} {e d : α→β} {n : Nat} {g : List α×List β} (h : DX e d n g) (p : α→Bool) (v : α) (R T : List β) (hT : T = g.1.map e ++ g.2 ++ e v :: R) : T.length = n + 1 + R.length∧T[n]? = some (e v)∧g.1.length < n∧(∃ u,T[g.1.length]? = some (e u)∨T[g.1.length]? = some (d u))∧(if p v = true then T.set n (d v) else (T.set n (d v)).set g.1.length (e v)) = (ic p d g v).1.map e ++ (ic p d g v).2 ++ R∧(if p v = true then g.1.length else g.1.length + 1) = (ic p d g v).1.length:=by
 obtain ⟨F,M⟩:=g
 have hn:=h.n
 have hm:=h.m
 have hr:=h.r
 simp at hn hm hr hT ⊢
 subst hT
 obtain ⟨a,M',rfl⟩ : ∃ a M',M = a :: M':=by cases M with | nil=>simp at hm | cons a M=>exact ⟨_,_,rfl⟩
 have e1 : n = (F.map e).length + (a :: M').length:=by simp; simp at hn; omega
 have e2 : F.length = (F.map e).length:=by simp
 obtain ⟨u,hu⟩:=hr a (by simp)
 refine ⟨by simp at hn ⊢; omega,?_,by simp at hn; omega,⟨u,?_⟩,?_,?_⟩
 ·rw [e1,← List.length_append,← List.append_assoc]
  simp
 ·rw [e2]
  rcases hu with rfl | rfl <;> simp
 ·have s1 : ∀ w,(F.map e ++ (a :: M' ++ e v :: R)).set n w = F.map e ++ (a :: M' ++ w :: R):=by
   intro w
   rw [e1]
   simp [List.set_append,Nat.add_comm,Nat.add_sub_cancel]
  rw [s1]
  unfold ic
  cases hp : p v
  ·simp only [hp,Bool.false_eq_true,if_false]
   rw [e2,List.set_append_right _ _ (Nat.le_refl _)]
   simp
  ·simp
 ·unfold ic
  cases hp : p v <;> simp
theorem DX.fold {α β : Type} {e d : α→β} (p : α→Bool) : ∀ (l : List α) (i : Nat) {n : Nat} {g : List α×List β},DX e d n g→DX e d (n + l.length) (foldI (fun _ g v=>ic p d g v) i l g)
 | [],i,n,g,h=>h
 | v :: l,i,n,g,h=>by
  have:=DX.fold p l (i + 1) (h.go p v)
  rw [foldI,List.length_cons,show n + (l.length + 1) = n + 1 + l.length by omega]
  exact this
theorem LR (hi : Nat) (z : List X) (F M : List (List X)) (n : Nat) (hn : n = F.length) : (lE n hi z (F ++ M)).take n = F:=by
 subst hn
 unfold lE
 apply List.ext_getElem?
 intro j
 rw [List.getElem?_take]
 split
 ·rename_i h
  rw [List.getElem?_mapIdx,List.getElem?_append_left h,List.getElem?_eq_getElem h]
  simp [Nat.not_le_of_lt h]
 ·rename_i h
  rw [List.getElem?_eq_none (by omega)]
theorem LQ (n hi : Nat) (z : List X) (T : List (List X)) : (lE n hi z T).length = T.length:=by simp [lE]
theorem Hz (A : List X) (hA : Pl A) (gf : Nat) (p : Kp→Bool) (ho : ak TT gf = true) (T : List (List X)) (v : Kp) (n f : Nat) (zP : n < T.length) (hv : T[n] = aB .own v) (hfn : f < n) (u : Kp) (hF : T[f] = aB .own u∨T[f] = ia u) (hb : T.length≤1073741824) (hf : ev LI TT gf [.agg (aB .af v),.ptr .af A] = some (.bool (p v),[.dead,.dead])) : ai (ev LI TT) (ak TT) me [(0,.ref 100000 []),(1,.fn gf [.ptr .af A]),(5,.int .i64 (f : Nat)),(6,.int .i64 ((n : Nat) : Int)),(100000,.row .own 9 T)] = some (.normal,[(0,.ref 100000 []),(1,.fn gf [.ptr .af A]),(5,.int .i64 ((if p v = true then f else f + 1 : Nat) : Int)),(6,.int .i64 ((n + 1 : Nat) : Int)),(100000,.row .own 9 (if p v = true then T.set n (ia v) else (T.set n (ia v)).set f (aB .own v)))]):=by
 have hw:=aT n (by omega)
 have lO:=aT f (by omega)
 have hm:=F3 T n _ (List.getElem?_eq_some_iff.2 ⟨zP,hv⟩)
 try simp at hf hv hm
 have Fm : f < T.length:=by omega
 cases hp : p v
 ·rw [hp] at hf
  have hne : ¬ n = f:=by omega
  have q7 : ¬ f = n:=by omega
  have hm2 : ∀ u',T[f] = u'→∀ w g,(T.set n w).modify f g = (T.set n w).set f (g u'):=fun u' h w g=>F3 _ f _ (by simp [List.getElem?_set,hne,Fm,h]) g
  rcases hF with hF | hF
  all_goals simp [ia] at hF
  all_goals have O8:=hm2 _ hF
  all_goals clear hm2
  all_goals simp -implicitDefEqProofs [me,yE,hw,lO,zP,hv,hf,hF,Fm,hne,q7,hm,O8,GH,ho,nq,hA.o,hA.k,hA.m,hA.b,hp,ia]
 ·simp -implicitDefEqProofs [me,yE,hw,lO,zP,hv,hf,hm,GH,ho,nq,hA.o,hA.k,hA.m,hA.b,hp,ia]
theorem Hx (A : List X) (hA : Pl A) (gf : Nat) (T : List (List X)) (n f : Nat) (hn : T.length = n) : ai (ev LI TT) (ak TT) me [(0,.ref 100000 []),(1,.fn gf [.ptr .af A]),(5,.int .i64 (f : Nat)),(6,.int .i64 ((n : Nat) : Int)),(100000,.row .own 9 T)] = some (.exit 0,[(0,.ref 100000 []),(1,.fn gf [.ptr .af A]),(5,.int .i64 (f : Nat)),(6,.int .i64 ((n : Nat) : Int)),(19,.bool false),(100000,.row .own 9 T)]):=by
 subst hn
 simp -implicitDefEqProofs [me,yE,hA.o,hA.k,hA.m,hA.b]
theorem Hy (A : List X) (hA : Pl A) (gf : Nat) (p : Kp→Bool) (ho : ak TT gf = true) (l : List Kp) (hf : ∀ x∈l,ev LI TT gf [.agg (aB .af x),.ptr .af A] = some (.bool (p x),[.dead,.dead])) (hb : l.length≤1073741824) (i0 : Nat) (hi0 : i0 < l.length) (g : List Kp×List (List X)) (hg : DX (aB .own) ia (i0 + 1) g) : ∃ g' : List Kp×List (List X),g'.1 = g.1 ++ (l.drop (i0 + 1)).filter (fun v=>!p v)∧DX (aB .own) ia l.length g'∧aK (ai (ev LI TT) (ak TT) me) [(0,.ref 100000 []),(1,.fn gf [.ptr .af A]),(5,.int .i64 ((g.1.length : Nat) : Int)),(6,.int .i64 ((i0 + 1 : Nat) : Int)),(100000,.row .own 9 (g.1.map (aB .own) ++ g.2 ++ (l.drop (i0 + 1)).map (aB .own)))] = some (.exit 0,[(0,.ref 100000 []),(1,.fn gf [.ptr .af A]),(5,.int .i64 ((g'.1.length : Nat) : Int)),(6,.int .i64 (l.length : Nat)),(19,.bool false),(100000,.row .own 9 (g'.1.map (aB .own) ++ g'.2))]):=by
 have hd : (l.drop (i0 + 1)).length + (i0 + 1) = l.length:=by rw [List.length_drop]; omega
 refine ⟨foldI (fun _ g v=>ic p ia g v) 0 (l.drop (i0 + 1)) g,Eh ..,?_,?_⟩
 ·have:=DX.fold p (l.drop (i0 + 1)) 0 hg
  rwa [show i0 + 1 + (l.drop (i0 + 1)).length = l.length by omega] at this
 ·refine o7 (f:=ai (ev LI TT) (ak TT) me) (l.drop (i0 + 1)) (fun i (g : List Kp×List (List X))=>[(0,.ref 100000 []),(1,.fn gf [.ptr .af A]),(5,.int .i64 ((g.1.length : Nat) : Int)),(6,.int .i64 ((i0 + 1 + i : Nat) : Int)),(100000,.row .own 9 (g.1.map (aB .own) ++ g.2 ++ (l.drop (i0 + 1 + i)).map (aB .own)))]) (fun _ g v=>ic p ia g v) (fun g=>[(0,.ref 100000 []),(1,.fn gf [.ptr .af A]),(5,.int .i64 ((g.1.length : Nat) : Int)),(6,.int .i64 (l.length : Nat)),(19,.bool false),(100000,.row .own 9 (g.1.map (aB .own) ++ g.2))]) (fun i g=>DX (aB .own) ia (i0 + 1 + i) g) g hg (fun i b g hi hl hinv=>?_) (fun i b g hi hinv=>?_) (fun g hinv=>?_)
  ·obtain ⟨hl',rfl⟩:=List.getElem?_eq_some_iff.1 hi
   have lK : i0 + 1 + i < l.length:=by rw [List.length_drop] at hl'; omega
   have jv : (l.drop (i0 + 1))[i] = l[i0 + 1 + i]:=by rw [List.getElem_drop]
   have e : l.drop (i0 + 1 + i) = l[i0 + 1 + i] :: l.drop (i0 + 1 + (i + 1)):=by rw [List.drop_eq_getElem_cons lK]; rfl
   obtain ⟨r1,r2,r3,⟨u,r4⟩,r5,r6⟩:=hinv.row p l[i0 + 1 + i] ((l.drop (i0 + 1 + (i + 1))).map (aB .own)) (g.1.map (aB .own) ++ g.2 ++ (l.drop (i0 + 1 + i)).map (aB .own)) (by rw [e,List.map_cons])
   rw [jv]
   obtain ⟨q1,q2⟩:=List.getElem?_eq_some_iff.1 r2
   have hr4 : ∃ h : g.1.length < (g.1.map (aB .own) ++ g.2 ++ (l.drop (i0 + 1 + i)).map (aB .own)).length,(g.1.map (aB .own) ++ g.2 ++ (l.drop (i0 + 1 + i)).map (aB .own))[g.1.length] = aB .own u∨(g.1.map (aB .own) ++ g.2 ++ (l.drop (i0 + 1 + i)).map (aB .own))[g.1.length] = ia u:=by
    rcases r4 with r4 | r4
    ·obtain ⟨a,b⟩:=List.getElem?_eq_some_iff.1 r4
     exact ⟨a,.inl b⟩
    ·obtain ⟨a,b⟩:=List.getElem?_eq_some_iff.1 r4
     exact ⟨a,.inr b⟩
   obtain ⟨_,hr4⟩:=hr4
   have hs:=Hz A hA gf p ho _ l[i0 + 1 + i] (i0 + 1 + i) g.1.length q1 q2 r3 u hr4 (by rw [r1,List.length_map,List.length_drop]; omega) (hf _ (List.getElem_mem lK))
   rw [hs,r5,r6,show i0 + 1 + i + 1 = i0 + 1 + (i + 1) by omega]
  ·exact hinv.go p b
  ·rw [show i0 + 1 + (l.drop (i0 + 1)).length = l.length by omega] at hinv ⊢
   rw [List.drop_length,List.map_nil,List.append_nil]
   exact Hx A hA gf _ _ _ (by rw [List.length_append,List.length_map]; exact hinv.n)
theorem Jo (l : List Kp) (A : List X) (hA : Pl A) (gf : Nat) (p : Kp→Bool) (ho : ak TT gf = true) (hf : ∀ x∈l,ev LI TT gf [.agg (aB .af x),.ptr .af A] = some (.bool (p x),[.dead,.dead])) (hb : l.length≤1073741824) : ev LI TT 197 [.row .own 9 (l.map (aB .own)),.fn gf [.ptr .af A]] = some (.row .own 9 ((l.filter (fun v=>!p v)).map (aB .own)),[.dead,.dead]):=by
 rw [az (b:=uh) (rs:=[.t 4]) (n:=2) rfl rfl]
 have u1:=Jp l A hA gf p ho hf (by omega)
 cases hg : cA p 0 l with
 | none =>
  rw [hg] at u1
  simp at u1
  have hl : l.filter (fun v=>!p v) = l:=List.filter_eq_self.2 fun x hx=>by have:=zB.1 hg x hx; simpa using this
  rw [hl]
  simp -implicitDefEqProofs [uh,u1,hA.o,hA.k,hA.m,hA.b]
 | some x =>
  obtain ⟨i,b⟩:=x
  rw [hg] at u1
  simp at u1
  obtain ⟨e,Xc,hq,hfl⟩:=LS hg
  obtain ⟨_,hi1,_⟩:=mN hg
  obtain ⟨hi,_⟩:=List.getElem?_eq_some_iff.1 hi1
  rw [Nat.sub_zero] at hi
  have hw:=aT i (by omega)
  obtain ⟨g',r1,r2,u2⟩:=Hy A hA gf p ho l hf hb i hi (l.take i,[aB .own b]) ⟨by simp; omega,by simp,fun x hx=>⟨b,.inl (by simpa using hx)⟩⟩
  rw [hfl]
  have hn:=r2.n
  have e2 : (l.take i).map (aB .own) ++ [aB .own b] ++ (l.drop (i + 1)).map (aB .own) = l.map (aB .own):=by
   conv=>rhs; rw [e]
   simp
  simp only [e2,List.length_take,Nat.min_eq_left (Nat.le_of_lt hi)] at u2
  dsimp only at r1
  rw [← r1]
  simp at u2
  have ft:=fun hi z=>LR hi z (g'.1.map (aB .own)) g'.2 g'.1.length (by simp)
  simp -implicitDefEqProofs [uh,u1,u2,hw,pn,LQ,ft,hA.o,hA.k,hA.m,hA.b]
  all_goals omega
end M
namespace M
open Go
def eE (g : Nat×Nat) (b : UInt8) : Nat×Nat:=((g.1 + b.toNat) % 65521,(g.2 + (g.1 + b.toNat) % 65521) % 65521)
theorem yj (g : Nat×Nat) (b : UInt8) : (eE g b).1 < 65521∧(eE g b).2 < 65521:=⟨Nat.mod_lt _ (by decide),Nat.mod_lt _ (by decide)⟩
theorem GZ (g : Nat×Nat) (b : UInt8) (h : g.1 < 65521∧g.2 < 65521) : (IntKind.i64.wrap (↑g.1 + IntKind.i64.wrap ↑b.toNat)).tmod 65521 = ↑(eE g b).1 ∧
  (IntKind.i64.wrap (↑g.2 + (IntKind.i64.wrap (↑g.1 + IntKind.i64.wrap ↑b.toNat)).tmod 65521)).tmod 65521 = ↑(eE g b).2:=by
 have hb:=b.toNat_lt
 have e1 : IntKind.i64.wrap (↑g.1 + IntKind.i64.wrap ↑b.toNat) = ((g.1 + b.toNat : Nat) : Int):=by rw [aO (n:=(b.toNat : Int)) (by omega) (by omega),aO (by omega) (by omega)]; omega
 have e2 : (((g.1 + b.toNat : Nat) : Int)).tmod 65521 = ↑(eE g b).1:=by rw [Int.tmod_eq_emod_of_nonneg (by omega)]; unfold eE; omega
 have h1:=(yj g b).1
 have e3 : IntKind.i64.wrap (↑g.2 + (↑(eE g b).1 : Int)) = ((g.2 + (eE g b).1 : Nat) : Int):=by rw [aO (by omega) (by omega)]; omega
 rw [e1,e2,e3]
 refine ⟨rfl,?_⟩
 rw [Int.tmod_eq_emod_of_nonneg (by omega)]
 unfold eE
 omega
def eC (s : ah) : Nat×Nat:=foldI (fun _ g b=>eE g b) 0 s (1,0)
theorem ER {γ β : Type} {go : Nat→γ→β→γ} {I : γ→Prop} (h : ∀ i g b,I g→I (go i g b)) : ∀ (l : List β) (i : Nat) (g : γ),I g→I (foldI go i l g)
 | [],_,_,hg=>hg
 | b :: l,i,g,hg=>ER h l (i + 1) _ (h i g b hg)
theorem CO (s : ah) : (eC s).1 < 65521∧(eC s).2 < 65521:=ER (I:=fun g=>g.1 < 65521∧g.2 < 65521) (fun _ g b _=>yj g b) s 0 _ (by simp)
def iJ (s : ah) : Nat:=65521 * (eC s).2 + (eC s).1
theorem ua (s : ah) : iJ s < 10 ^ 10:=by have:=CO s; unfold iJ; omega
theorem IC (s : ah) (hb : s.length≤9223372036854775807) (g : Nat×Nat) (hinv : g.1 < 65521∧g.2 < 65521) : aK (ai (ev LI TT) (ak TT) tB) [(0,.str ⟨s.toArray⟩),(3,.int .i64 (g).1),(4,.int .i64 (g).2),(5,.int .i64 0)] = some (.exit 0,[(0,.str ⟨s.toArray⟩),(3,.int .i64 ((foldI (fun _ g b=>eE g b) 0 (s) g)).1),(4,.int .i64 ((foldI (fun _ g b=>eE g b) 0 (s) g)).2),(5,.int .i64 (s).length),(9,.bool false)]):=by
 refine o7 (f:=ai (ev LI TT) (ak TT) tB) (s) (fun i (g : Nat×Nat)=>[(0,.str ⟨s.toArray⟩),(3,.int .i64 (g).1),(4,.int .i64 (g).2),(5,.int .i64 i)]) (fun _ g b=>eE g b) (fun g=>[(0,.str ⟨s.toArray⟩),(3,.int .i64 (g).1),(4,.int .i64 (g).2),(5,.int .i64 (s).length),(9,.bool false)]) (fun i (g : Nat×Nat)=>g.1 < 65521∧g.2 < 65521) g hinv (fun i b g hi hl hinv=>?_) (fun i b g hi hinv=>?_) (fun g hinv=>?_)
 ·have hw:=aT i (by first | omega | (simp at hl; omega))
  obtain ⟨_,rfl⟩:=List.getElem?_eq_some_iff.1 hi
  skip
  simp -implicitDefEqProofs [tB,Ci,hl,hw]
  exact GZ g s[i] hinv
 ·exact yj _ _
 ·simp -implicitDefEqProofs [tB,Ci]
theorem KL (s : ah) (hb : s.length≤9223372036854775807) : ev LI TT 188 [.str ⟨s.toArray⟩] = some (.int .i64 (iJ s),[.dead]):=by
 rw [az (b:=xA) (rs:=[.t 2]) (n:=1) rfl rfl]
 have h:=IC  s hb (1,0) (by simp)
 have h2:=CO s
 have e1 : IntKind.i64.wrap (65521 * ((eC s).2 : Int)) = 65521 * (eC s).2:=aO (by omega) (by omega)
 have e2 : IntKind.i64.wrap (65521 * ((eC s).2 : Int) + (eC s).1) = 65521 * (eC s).2 + (eC s).1:=aO (by omega) (by omega)
 rw [show foldI (fun _ g b=>eE g b) 0 s (1,0) = eC s from rfl] at h
 simp at h
 simp -implicitDefEqProofs [xA,h,e1,e2,iJ]
 all_goals (repeat' split) <;> first | rfl | omega | (simp_all; done) | (simp_all; omega) | skip
theorem HK (s : ah) (hb : s.length≤9223372036854775807) (g : Nat×Nat) (hinv : g.1 < 65521∧g.2 < 65521) : aK (ai (ev LI TT) (ak TT) rO) [(0,.str ⟨s.toArray⟩),(3,.int .i64 (g).1),(4,.int .i64 (g).2),(5,.int .i64 0)] = some (.exit 0,[(0,.str ⟨s.toArray⟩),(3,.int .i64 ((foldI (fun _ g b=>eE g b) 0 (s) g)).1),(4,.int .i64 ((foldI (fun _ g b=>eE g b) 0 (s) g)).2),(5,.int .i64 (s).length),(9,.bool false)]):=by
 refine o7 (f:=ai (ev LI TT) (ak TT) rO) (s) (fun i (g : Nat×Nat)=>[(0,.str ⟨s.toArray⟩),(3,.int .i64 (g).1),(4,.int .i64 (g).2),(5,.int .i64 i)]) (fun _ g b=>eE g b) (fun g=>[(0,.str ⟨s.toArray⟩),(3,.int .i64 (g).1),(4,.int .i64 (g).2),(5,.int .i64 (s).length),(9,.bool false)]) (fun i (g : Nat×Nat)=>g.1 < 65521∧g.2 < 65521) g hinv (fun i b g hi hl hinv=>?_) (fun i b g hi hinv=>?_) (fun g hinv=>?_)
 ·have hw:=aT i (by first | omega | (simp at hl; omega))
  obtain ⟨_,rfl⟩:=List.getElem?_eq_some_iff.1 hi
  skip
  simp -implicitDefEqProofs [rO,Aw,hl,hw]
  exact GZ g s[i] hinv
 ·exact yj _ _
 ·simp -implicitDefEqProofs [rO,Aw]
theorem JH (s : ah) (hb : s.length≤9223372036854775807) : ev LI TT 266 [.str ⟨s.toArray⟩] = some (.int .i64 (iJ s),[.dead]):=by
 rw [az (b:=vI) (rs:=[.t 2]) (n:=1) rfl rfl]
 have h:=HK  s hb (1,0) (by simp)
 have h2:=CO s
 have e1 : IntKind.i64.wrap (65521 * ((eC s).2 : Int)) = 65521 * (eC s).2:=aO (by omega) (by omega)
 have e2 : IntKind.i64.wrap (65521 * ((eC s).2 : Int) + (eC s).1) = 65521 * (eC s).2 + (eC s).1:=aO (by omega) (by omega)
 rw [show foldI (fun _ g b=>eE g b) 0 s (1,0) = eC s from rfl] at h
 simp at h
 simp -implicitDefEqProofs [vI,h,e1,e2,iJ]
 all_goals (repeat' split) <;> first | rfl | omega | (simp_all; done) | (simp_all; omega) | skip
theorem HB (n : Nat) (out : ah) (hn : out.length + n≤9223372036854775807) : aK (ai (ev LI TT) (ak TT) Ct) [(0,.int .i64 n),(3,.str ⟨out.toArray⟩)] = some (.exit 0,[(0,.int .i64 0),(3,.str ⟨(gA n out).toArray⟩),(7,.bool false)]):=by
 have hs : ∀ s,ai (ev LI TT) (ak TT) Ct s = ai (ev LI TT) (ak TT) xJ s:=fun _=>rfl
 induction n using Nat.strongRecOn generalizing out with
 | ind n ih =>
  rw [gP,hs]
  unfold gA
  by_cases h : n = 0
  ·subst h
   simp -implicitDefEqProofs [xJ]
  ·have hp : 0 < n:=by omega
   have:=ih (n / 10) (by omega) (UInt8.ofNat (48 + n % 10) :: out) (by rw [List.length_cons]; omega)
   have e1 : ((n : Int)).tmod 10 = ((n % 10 : Nat) : Int):=by rw [Int.tmod_eq_emod_of_nonneg (by omega)]; omega
   have e4 : ((n : Int)).tdiv 10 = ((n / 10 : Nat) : Int):=by rw [Int.tdiv_eq_ediv_of_nonneg (by omega)]; omega
   have e2 : IntKind.i64.wrap (48 + ((n % 10 : Nat) : Int)) = ((48 + n % 10 : Nat) : Int):=by rw [aO (by omega) (by omega)]; omega
   have e3 : IntKind.u8.wrap ((48 + n % 10 : Nat) : Int) = ((48 + n % 10 : Nat) : Int):=yC (by omega) (by omega)
   have e5:=CY (48 + n % 10) (by omega)
   have e6 : IntKind.i64.wrap ((n / 10 : Nat) : Int) = ((n / 10 : Nat) : Int):=aO (by omega) (by omega)
   simp only [h,dite_false]
   rw [← this]
   simp -implicitDefEqProofs [xJ,hp,nA,e1,e2,e3,e4,e5,e6,-Int.natCast_emod,-Int.natCast_ediv,-Int.natCast_add,-UInt8.ofNat_add,iI,(by omega : 1 + out.length≤9223372036854775807)]
theorem zf (n : Nat) (hk : n≤9223372036854775800) : ev LI TT 187 [.int .i64 (n : Int)] = some (.str ⟨(bG n).toArray⟩,[.dead]):=by
 rw [az (b:=tI) (rs:=[.t 2]) (n:=1) rfl rfl]
 by_cases h : n = 0
 ·subst h; simp -implicitDefEqProofs [tI,Ei]
 have h1:=HB  n [] (by simp; omega)
 rw [FZ n [] h,List.append_nil] at h1
 simp -implicitDefEqProofs [tI,h,h1]
 all_goals (repeat' split) <;> first | rfl | omega | (simp_all; done) | (simp_all; omega) | skip
def xk (n : Nat) (b : ah) : ah:=bG (iJ (bG n ++ 32 :: (bG b.length ++ 10 :: b))) ++ 32 :: (bG n ++ 32 :: (bG b.length ++ 10 :: b))
def dU (n : Int) (b : ah) : ah:=if 1≤n∧n≤100000∧b.length≤2000 then xk n.toNat b else []
theorem KH (n : Int) (b : ah) (hb : b.length≤9223372036854775807) : ev LI TT 97 [.int .i64 n,.str ⟨b.toArray⟩] = some (.str ⟨(dU n b).toArray⟩,[.dead,.dead]):=by
 rw [az (b:=pQ) (rs:=[.t 4]) (n:=2) rfl rfl]
 by_cases h1 : ¬ (1≤n∧n≤100000)
 ·have h1' : ¬ (1≤n∧n≤100000∧b.length≤2000):=by omega
  simp -implicitDefEqProofs [pQ,h1,dU,h1']
 by_cases h2 : 2000 < b.length
 ·have h1' : ¬ (1≤n∧n≤100000∧b.length≤2000):=by omega
  have fP : (2000 : Int) < b.length:=by omega
  simp -implicitDefEqProofs [pQ,h1,dU,h1',h2,fP]
 obtain ⟨m,rfl⟩ : ∃ m : Nat,n = m:=⟨n.toNat,by omega⟩
 have l1:=j9 5 m (by omega)
 have l2:=j9 5 b.length (by omega)
 have l3:=j9 17 (iJ (bG m ++ 32 :: (bG b.length ++ 10 :: b))) (Nat.lt_trans (ua _) (by decide))
 have k1:=zf  m (by omega)
 have k2:=zf  b.length (by omega)
 have k4:=zf  (iJ (bG m ++ 32 :: (bG b.length ++ 10 :: b))) (by have:=ua (bG m ++ 32 :: (bG b.length ++ 10 :: b)); omega)
 have k3:=KL  (bG m ++ 32 :: (bG b.length ++ 10 :: b)) (by simp; omega)
 have fP : ¬ (2000 < (b.length : Int)):=by omega
 have h3 : 1≤m∧m≤100000:=by omega
 have h4 : b.length≤2000:=by omega
 simp -implicitDefEqProofs [pQ,fP,h3,h4,k1,k2,k3,k4,iI,dU,xk]
 repeat rw [if_pos (by omega)]
theorem Jy (n : Int) (b : ah) (hb : b.length≤9223372036854775807) : ev LI TT 194 [.int .i64 n,.str ⟨b.toArray⟩] = some (.str ⟨(dU n b).toArray⟩,[.dead,.dead]):=by
 rw [az (b:=oG) (rs:=[.t 4]) (n:=2) rfl rfl]
 by_cases h1 : ¬ (1≤n∧n≤100000)
 ·have h1' : ¬ (1≤n∧n≤100000∧b.length≤2000):=by omega
  simp -implicitDefEqProofs [oG,h1,dU,h1']
 by_cases h2 : 2000 < b.length
 ·have h1' : ¬ (1≤n∧n≤100000∧b.length≤2000):=by omega
  have fP : (2000 : Int) < b.length:=by omega
  simp -implicitDefEqProofs [oG,h1,dU,h1',h2,fP]
 obtain ⟨m,rfl⟩ : ∃ m : Nat,n = m:=⟨n.toNat,by omega⟩
 have l1:=j9 5 m (by omega)
 have l2:=j9 5 b.length (by omega)
 have l3:=j9 17 (iJ (bG m ++ 32 :: (bG b.length ++ 10 :: b))) (Nat.lt_trans (ua _) (by decide))
 have k1:=uI m (by omega)
 have k2:=uI b.length (by omega)
 have k4:=uI (iJ (bG m ++ 32 :: (bG b.length ++ 10 :: b))) (by have:=ua (bG m ++ 32 :: (bG b.length ++ 10 :: b)); omega)
 have k3:=JH  (bG m ++ 32 :: (bG b.length ++ 10 :: b)) (by simp; omega)
 have fP : ¬ (2000 < (b.length : Int)):=by omega
 have h3 : 1≤m∧m≤100000:=by omega
 have h4 : b.length≤2000:=by omega
 simp -implicitDefEqProofs [oG,fP,h3,h4,k1,k2,k3,k4,iI,dU,xk]
 repeat rw [if_pos (by omega)]
end M
set_option maxHeartbeats 4000000
namespace M
open Go
structure I0 (s : Sh) : Prop where
 d : dc s.aG = true
 b : (s.aD.length : Int)≤5
 n : 5≤s.next∧s.next≤19
 q : 1≤s.seq∧s.seq≤100000
 bs : aS dj s.aD = true
 os : pG s.seq s.ay = true
theorem GK {s : Sh} (h : dV s = true) : I0 s:=by
 unfold dV at h
 simp only [Bool.and_eq_true,decide_eq_true_eq] at h
 exact ⟨h.1.1.1.1.1,h.1.1.1.1.2,h.1.1.1.2,h.1.1.2,h.1.2,h.2⟩
theorem IY (s : Sh) : Pl [.ptr .af (kP .dead s)]:=⟨by simp [kP],by simp [kP],by simp [kP],by simp [kP]⟩
end M
set_option maxHeartbeats 4000000
namespace M
open Go
theorem LU {β : Type} (p : β→Bool) (l : List β) : l.flatMap (fun k=>if p k = true then [k] else []) = l.filter p:=by
 induction l with
 | nil=>rfl
 | cons a l ih=>cases h : p a <;> simp [h,ih]
def iH : Sh:=⟨⟨[],[]⟩,[],[],0,0⟩
end M
set_option maxHeartbeats 4000000
namespace M
open Go
theorem UZ {α : Type} (w : α→Nat) (l : List α) (i : Nat) (v : α) : wL w (l.set i v)≤wL w l + w v:=by
 unfold wL
 rw [List.length_set]
 induction l generalizing i with
 | nil=>simp
 | cons a l ih =>
  cases i with
  | zero=>simp; omega
  | succ i=>have:=ih i; simp at this ⊢; omega
theorem yz {α : Type} (w : α→Nat) (a b : List α) : wL w (a ++ b) = wL w a + wL w b:=by
 unfold wL
 simp
 omega
theorem UY {α : Type} (w : α→Nat) (p : α→Bool) (l : List α) : wL w (l.filter p)≤wL w l:=by
 induction l with
 | nil=>simp [wL]
 | cons a l ih =>
  rw [List.filter_cons]
  split <;> simp [wL] at ih ⊢ <;> omega
theorem ES (k : Nat→Bool) : ∀ (ws : List Wr) (i : Nat) (cs : List ah),wL wS (foldI (fC k) i ws cs)≤wL wS cs + wL bk ws
 | [],i,cs=>by simp [foldI]
 | w :: ws,i,cs=>by
  have h:=ES k ws (i + 1) (fC k i cs w)
  have h2 : wL wS (fC k i cs w)≤wL wS cs + bk w:=by
   unfold fC
   split
   ·exact UZ wS cs _ w.text
   ·omega
  have h3 : wL bk (w :: ws) = bk w + wL bk ws + 1:=by simp [wL]; omega
  rw [foldI]
  omega
theorem EP (d : bW) : bJ (dS d)≤bJ d:=by
 have:=ES (gN [] true) d.pending 0 d.cells
 show wL wS (ny (gN [] true) d.cells d.pending) + wL bk []≤wL wS d.cells + wL bk d.pending
 unfold ny
 have h : wL bk ([] : List Wr) = 0:=rfl
 omega
theorem Rr (d : bW) (a : Int) (t : ah) : bJ (gB d a t)≤bJ d + t.length + 1:=by
 have h:=EP d
 have h1 : wL bk [⟨a,t⟩] = t.length + 1:=by simp [wL,bk]; omega
 unfold gB
 split
 ·show wL wS (dS d).cells + wL bk [⟨a,t⟩]≤_
  have h2 : bJ (dS d) = wL wS (dS d).cells + wL bk []:=rfl
  have h : wL bk ([] : List Wr) = 0:=rfl
  omega
 ·show wL wS d.cells + wL bk (d.pending ++ [⟨a,t⟩])≤wL wS d.cells + wL bk d.pending + t.length + 1
  rw [yz]
  omega
theorem RA (n : Int) (b : ah) : (dU n b).length≤2040:=by
 unfold dU
 split
 ·rename_i h
  unfold xk
  have l1:=zn n.toNat (by omega)
  have l2:=zn b.length (by omega)
  have l3:=j9 17 (iJ (bG n.toNat ++ 32 :: (bG b.length ++ 10 :: b))) (Nat.lt_trans (ua _) (by decide))
  simp
  omega
 ·simp
end M
namespace M
open Go
end M
set_option maxHeartbeats 4000000
namespace M
open Go
def yA : ah:=[112,97,116,104]
def yw : ah:=[98,101,108,111,119]
def yy : ah:=[102,105,101,108,100]
def mc (k : Int) : ah:=if k = 1 then yA else if k = 2 then yw else yy
def ec (b : Bn) : ah:=if dj b = true then [98,97,110] ++ 32 :: (mc b.kind ++ 32 :: (kG b.t ++ 32 :: (b.a ++ if b.kind = 3 then 10 :: b.b else []))) else []
theorem Dm {b : Bn} (h : dj b = true) : b.kind = 1∨b.kind = 2∨b.kind = 3:=by
 unfold dj at h
 by_cases h1 : b.kind = 1
 ·exact Or.inl h1
 by_cases h2 : b.kind = 2
 ·exact Or.inr (Or.inl h2)
 by_cases h3 : b.kind = 3
 ·exact Or.inr (Or.inr h3)
 simp [h1,h2,h3] at h
theorem U0 (k : Int) : (mc k).length≤5:=by
 unfold mc
 (repeat' split) <;> simp [yA,yw,yy]
theorem JJ (k : Int) (hk : k = 1∨k = 2∨k = 3) : ev LI TT 267 [.int .i64 k] = some (.str ⟨(mc k).toArray⟩,[.dead]):=by
 rw [az (b:=vN) (rs:=[.t 2]) (n:=1) rfl rfl]
 rcases hk with rfl | rfl | rfl
 all_goals
 simp -implicitDefEqProofs [vN,mc,yA,yw,yy,tV,nQ,nA,aO]
 all_goals (repeat' split) <;> first | rfl | omega | (simp_all; done) | (simp_all; omega) | skip
theorem KA (b : Bn) (hb : aH b≤1073741824) : ev LI TT 98 [.agg (aM b)] = some (.str ⟨(ec b).toArray⟩,[.dead]):=by
 rw [az (b:=tf) (rs:=[.t 2]) (n:=1) rfl rfl]
 obtain ⟨kd,a0,b0,t0⟩:=b
 have hw : aH ⟨kd,a0,b0,t0⟩ = a0.length + b0.length:=rfl
 have l1:=BM t0
 unfold ec
 have u1:=uH  ⟨kd,a0,b0,t0⟩ hb
 try simp at u1
 have u2:=KG  t0
 try simp at u2
 by_cases g : dj ⟨kd,a0,b0,t0⟩ = true
 rotate_left
 ·simp -implicitDefEqProofs [tf,u1,u2,g]
 rw [g] at u1
 rcases Dm g with h | h | h
 all_goals simp only at h
 all_goals subst h
 all_goals
 simp -implicitDefEqProofs [tf,u1,u2,g,mc,yA,yw,yy,tV,nQ,nA,aO,iI,B4]
 all_goals (try simp only [*,not_false_eq_true,if_false,List.append_nil])
 all_goals (repeat rw [if_pos (by omega)])
 all_goals (try simp)
 all_goals first | done | omega | (refine ⟨by omega,by omega,?_⟩; rw [show (⟨#[10]⟩ : ByteArray) = ⟨([10] : ah).toArray⟩ from rfl,iI,iI]; simp; done) | skip
theorem Jq (b : Bn) (hb : aH b≤1073741824) : ev LI TT 195 [.agg (aM b)] = some (.str ⟨(ec b).toArray⟩,[.dead]):=by
 rw [az (b:=rD) (rs:=[.t 2]) (n:=1) rfl rfl]
 obtain ⟨kd,a0,b0,t0⟩:=b
 have hw : aH ⟨kd,a0,b0,t0⟩ = a0.length + b0.length:=rfl
 have l1:=BM t0
 have l2:=U0 kd
 unfold ec
 have u1:=uG  ⟨kd,a0,b0,t0⟩ hb
 try simp at u1
 have u2:=Jx  t0
 try simp at u2
 by_cases g : dj ⟨kd,a0,b0,t0⟩ = true
 rotate_left
 ·simp -implicitDefEqProofs [rD,u1,u2,g]
 rw [g] at u1
 have u3:=JJ kd (Dm g)
 try simp at u3
 by_cases h : kd = 3
 all_goals (try subst h)
 all_goals
 simp -implicitDefEqProofs [rD,u1,u2,u3,g,iI]
 all_goals (try simp only [*,not_false_eq_true,if_false,List.append_nil])
 all_goals (repeat rw [if_pos (by omega)])
 all_goals (try simp)
 all_goals first | done | omega | (refine ⟨by omega,by omega,?_⟩; rw [show (⟨#[10]⟩ : ByteArray) = ⟨([10] : ah).toArray⟩ from rfl,iI,iI]; simp; done) | skip
end M
set_option maxHeartbeats 4000000
namespace M
open Go
theorem Jd {α : Type} (p : α→Bool) (a b : List α) : aS p (a ++ b) = (aS p a && aS p b):=by
 induction a with
 | nil=>simp [aS]
 | cons x a ih=>simp [aS,ih,Bool.and_assoc]
theorem Gn {d : bW} {a : Int} (t : ah) (h : dc d = true) (ha : 0≤a∧a≤19) : dc (gB d a t) = true:=by
 obtain ⟨h0,h1,h2⟩:=kH h
 have hf:=EO h
 unfold gB
 split
 ·obtain ⟨g0,g1,g2⟩:=kH hf
  unfold dc
  simp [g1,aS,jI,ha]
 ·rename_i hp
  unfold dc at h ⊢
  simp only [Bool.and_eq_true,decide_eq_true_eq,List.length_append,List.length_cons,List.length_nil,Jd] at h ⊢
  simp [aS,jI,ha] at h ⊢
  exact ⟨h.1,by omega⟩
def oa (s : Sh) (b : Bn) : Bool:=dj b && !decide (5≤(s.aD.length : Int)) && !decide (s.seq = 100000)
def n9 (s : Sh) (b : Bn) : bW:=dS (gB s.aG s.aD.length (dU s.seq (ec b)))
def qx (s : Sh) (b : Bn) : List Kp:=s.ay.filter fun k=>!gu (s.aD ++ [b]) k.obj
def yR (s : Sh) (b : Bn) : Sh:=⟨n9 s b,qx s b,s.aD ++ [b],s.next,s.seq + 1⟩
def gb (s : Sh) (b : Bn) : Sh:=if oa s b = true then yR s b else s
theorem Jk (s : Sh) (b : Bn) : bA (gb s b)≤bA s + aH b + 2100:=by
 unfold gb
 split
 ·have h1:=Rr s.aG s.aD.length (dU s.seq (ec b))
  have h2:=RA s.seq (ec b)
  have h5:=EP (gB s.aG s.aD.length (dU s.seq (ec b)))
  have h3 : wL aR (qx s b)≤wL aR s.ay:=UY aR _ _
  have h4 : wL aH [b] = aH b + 1:=by simp [wL]; omega
  show bJ (dS (gB s.aG s.aD.length (dU s.seq (ec b)))) + wL aR (qx s b) + wL aH (s.aD ++ [b])≤bJ s.aG + wL aR s.ay + wL aH s.aD + aH b + 2100
  rw [yz]
  omega
 ·omega
theorem Dn (b : Bn) (hb : aH b≤1073741824) : (ec b).length≤9223372036854775807:=by
 have h1:=BM b.t
 have h2 : aH b = b.a.length + b.b.length:=rfl
 have h3 : (mc b.kind).length≤10:=by unfold mc; split <;> (try split) <;> decide
 unfold ec
 split
 ·split <;> simp <;> omega
 ·simp
theorem JB (s : Sh) (b : Bn) (h : dV s = true) (hb : bA s≤1000000000) (ho : aH b≤10000000) : ev LI TT 101 [.ptr .own (aY .own s),.agg (aM b)] = some (.bool (oa s b),[.ptr .own (aY .own (gb s b)),.dead]):=by
 rw [az (b:=ni) (rs:=[.t 4]) (n:=2) rfl rfl]
 have A:=GK h
 have hn:=A.n
 have hq:=A.q
 have OO:=A.b
 have fA : bA s = bJ s.aG + wL aR s.ay + wL aH s.aD:=rfl
 have l1:=br (w:=aR) s.ay
 have v1:=uG b (by omega)
 try simp at v1
 have hlz : (s.aD.length + 1) * 48≤140737488355328:=by omega
 have hw:=aO (n:=s.seq + 1) (by omega) (by omega)
 unfold gb oa
 cases g1 : dj b
 ·simp -implicitDefEqProofs [ni,v1,g1]
 by_cases g2 : 5≤(s.aD.length : Int)
 ·simp -implicitDefEqProofs [ni,v1,g1,g2]
 by_cases g3 : s.seq = 100000
 ·simp -implicitDefEqProofs [ni,v1,g1,g2,g3]
 have v2:=Jq b (by omega)
 have v3:=Jy s.seq (ec b) (Dn b (by omega))
 have v4:=JF s s.aD.length (dU s.seq (ec b)) A.d
 have v5:=Dr (gB s.aG s.aD.length (dU s.seq (ec b))) (Gn _ A.d (by omega))
 have Ak : wL aH (s.aD ++ [b])≤1073741824:=by rw [yz]; have : wL aH [b] = aH b + 1:=(by simp [wL]; omega); have e2 : aH b≤10000000:=ho; omega
 have v6:=Jo s.ay [.ptr .af (kP .dead ⟨n9 s b,s.ay,s.aD ++ [b],s.next,s.seq + 1⟩)] (IY _) 198 (fun k=>gu (s.aD ++ [b]) k.obj) rfl (fun k hk=>JC k .dead ⟨n9 s b,s.ay,s.aD ++ [b],s.next,s.seq + 1⟩ (by have:=p9 hk; omega) Ak) (by omega)
 unfold pK at v4
 rw [show s.ay.filter (fun k=>!gu (s.aD ++ [b]) k.obj) = qx s b from rfl] at v6
 rw [show dS (gB s.aG s.aD.length (dU s.seq (ec b))) = n9 s b from rfl] at v5
 try simp [kP] at v2 v3 v4 v5 v6
 unfold yR
 simp -implicitDefEqProofs [ni,gC,eg,v1,v2,v3,v4,v5,v6,g1,g2,g3,hw,hlz,dN,At,Au,Av]
 all_goals (repeat' split) <;> first | rfl | omega | (simp_all; done) | (simp_all; omega) | skip
end M
set_option maxHeartbeats 4000000
namespace M
open Go
theorem Jr (s : Sh) (b : Bn) (hb : bA s≤1000000000) (ho : aH b≤10000000) : ev LI TT 36 [.agg (aY .af s),.agg (aM b)] = some (.au [.agg (aY .own (if dV s = true then gb s b else iH)),.bool ((dV s && oa s b))],[.dead,.dead]):=by
 rw [az (b:=rE) (rs:=[.c 4 6 true 43,.t 5]) (n:=2) rfl rfl]
 have u1:=JA  s (by omega)
 try simp at u1
 have u2:=JO  s (by omega)
 try simp at u2
 cases g : dV s
 ·simp -implicitDefEqProofs [rE,u1,g,iH]
 have v1:=JB s b g hb ho
 try simp at v1
 simp -implicitDefEqProofs [rE,u1,u2,g,v1]
 all_goals (repeat' split) <;> first | rfl | omega | (simp_all; done) | (simp_all; omega) | skip
theorem Iq (s : Sh) (D : bW) (B : List Bn) (sq : Int) (hb : bA s≤1000000000) (hB : wL aH B≤1073741824) : aK (ai (ev LI TT) (ak TT) tg) [(2,.ptr .own (aY .af s)),(4,.ptr .own [.row .own 1 [],.row .own 2 [],.row .own 9 [],.row .own 4 [],.int .i64 0,.int .i64 0]),(6,.ptr .own [.row .own 1 (D.cells.map eS),.row .own 2 (D.pending.map eW),.row .own 9 (([]).map (aB .own)),.row .own 4 (B.map aM),.int .i64 s.next,.int .i64 sq]),(7,.int .i64 0)] = some (.exit 0,[(2,.ptr .own (aY .af s)),(4,.ptr .own [.row .own 1 [],.row .own 2 [],.row .own 9 [],.row .own 4 [],.int .i64 0,.int .i64 0]),(6,.ptr .own [.row .own 1 (D.cells.map eS),.row .own 2 (D.pending.map eW),.row .own 9 ((((s.ay).flatMap (fun k=>if (!gu B k.obj) = true then [k] else []))).map (aB .own)),.row .own 4 (B.map aM),.int .i64 s.next,.int .i64 sq]),(7,.int .i64 (s.ay).length),(58,.bool false)]):=by
 refine o6 (f:=ai (ev LI TT) (ak TT) tg) (s.ay) (fun k=>if (!gu B k.obj) = true then [k] else []) (fun i out=>[(2,.ptr .own (aY .af s)),(4,.ptr .own [.row .own 1 [],.row .own 2 [],.row .own 9 [],.row .own 4 [],.int .i64 0,.int .i64 0]),(6,.ptr .own [.row .own 1 (D.cells.map eS),.row .own 2 (D.pending.map eW),.row .own 9 ((out).map (aB .own)),.row .own 4 (B.map aM),.int .i64 s.next,.int .i64 sq]),(7,.int .i64 i)]) (fun out=>[(2,.ptr .own (aY .af s)),(4,.ptr .own [.row .own 1 [],.row .own 2 [],.row .own 9 [],.row .own 4 [],.int .i64 0,.int .i64 0]),(6,.ptr .own [.row .own 1 (D.cells.map eS),.row .own 2 (D.pending.map eW),.row .own 9 ((out).map (aB .own)),.row .own 4 (B.map aM),.int .i64 s.next,.int .i64 sq]),(7,.int .i64 (s.ay).length),(58,.bool false)]) (fun i b out hi hl hout=>?_) (fun out hout=>?_)
 ·have hw:=aT i (by have fA : bA s = bJ s.aG + wL aR s.ay + wL aH s.aD:=rfl; have:=br (w:=aR) s.ay; omega)
  obtain ⟨_,rfl⟩:=List.getElem?_eq_some_iff.1 hi
  have fA : bA s = bJ s.aG + wL aR s.ay + wL aH s.aD:=rfl
  have hlk:=br (w:=aR) s.ay
  have hm:=p9 (List.getElem_mem hl)
  have hlo : out.length≤i:=by rw [hout]; exact EN _ (fun b=>by split <;> simp) _ _
  have hlz : (out.length + 1) * 136≤140737488355328:=by omega
  have u1:=DJ  (s.ay[i]).obj (by omega)
  try simp at u1
  have u2:=KE  B (s.ay[i]).obj hB (by omega)
  try simp at u2
  cases g2 : gu B (s.ay[i]).obj
  all_goals
  simp -implicitDefEqProofs [tg,B5,hl,hw,u1,u2,hlz,dN,g2]
 ·simp -implicitDefEqProofs [tg,B5]
theorem KB (s : Sh) (b : Bn) (hb : bA s≤1000000000) (ho : aH b≤10000000) : ev LI TT 34 [.agg (aY .af s),.agg (aM b)] = some (.au [.agg (aY .own (if dV s = true then gb s b else iH)),.bool ((dV s && oa s b))],[.dead,.dead]):=by
 rw [az (b:=l7) (rs:=[.c 4 6 true 43,.t 5]) (n:=2) rfl rfl]
 have u1:=KJ  s (by omega)
 try simp at u1
 have u2:=KO  s (by omega)
 try simp at u2
 cases g : dV s
 ·simp -implicitDefEqProofs [l7,u1,g,iH]
 rw [g] at u1
 have A:=GK g
 have hn:=A.n
 have hq:=A.q
 have OO:=A.b
 have fA : bA s = bJ s.aG + wL aR s.ay + wL aH s.aD:=rfl
 have l1:=br (w:=aR) s.ay
 have v1:=uH b (by omega)
 try simp at v1
 have hlz : (s.aD.length + 1) * 48≤140737488355328:=by omega
 have hw:=aO (n:=s.seq + 1) (by omega) (by omega)
 unfold gb oa
 cases g1 : dj b
 ·simp -implicitDefEqProofs [l7,u1,u2,v1,g,g1]
 by_cases g2 : 5≤(s.aD.length : Int)
 ·have ov : (s.aD.length : Int) = 5:=by omega
  simp -implicitDefEqProofs [l7,u1,u2,v1,g,g1,ov]
 have ov : ¬ (s.aD.length : Int) = 5:=by omega
 by_cases g3 : s.seq = 100000
 ·rw [g3] at u1 u2; simp -implicitDefEqProofs [l7,u1,u2,v1,g,g1,g2,ov,g3]
 have v2:=KA b (by omega)
 have v3:=KH s.seq (ec b) (Dn b (by omega))
 have v4:=KP s s.aD.length (dU s.seq (ec b)) A.d (by omega)
 have v5:=DF (gB s.aG s.aD.length (dU s.seq (ec b))) (Gn _ A.d (by omega))
 have Ak : wL aH (s.aD ++ [b])≤1073741824:=by rw [yz]; have : wL aH [b] = aH b + 1:=(by simp [wL]; omega); have e2 : aH b≤10000000:=ho; omega
 have v6:=Iq s (n9 s b) (s.aD ++ [b]) (s.seq + 1) hb Ak
 unfold pK at v4
 rw [LU,show s.ay.filter (fun k=>!gu (s.aD ++ [b]) k.obj) = qx s b from rfl] at v6
 rw [show dS (gB s.aG s.aD.length (dU s.seq (ec b))) = n9 s b from rfl] at v5
 try simp at v2 v3 v4 v5 v6
 unfold yR
 simp -implicitDefEqProofs [l7,u1,u2,v1,v2,v3,v4,v5,v6,g,g1,g2,ov,g3,hw,hlz,dN,B6,B7,B8,B9]
 all_goals (repeat' split) <;> first | rfl | omega | (simp_all; done) | (simp_all; omega) | skip
end M
set_option maxHeartbeats 4000000
namespace M
open Go
theorem Xs (a0 : Sh) (k0 : qo a0) (a1 : Bn) (k1 : jZ a1) : ∃ ps,ev LI TT 7 [.agg (aY .sl a0),.agg (aM a1)] = some (.bool true,ps):=by
 rw [az (b:=oM) (rs:=[.t 4]) (n:=2) rfl rfl]
 have s0:=Kk a0 1048576 k0 (by omega) (by omega)
 have w0:=b8 1048576 (bA a0)
 obtain ⟨m0,e0⟩ : ∃ m,m = aJ 1048576 (bA a0):=⟨_,rfl⟩
 rw [← e0] at s0 w0
 try simp at s0
 by_cases z0 : m0 < 0
 ·simp -implicitDefEqProofs [oM,s0,z0]
 have s1:=DB a1 m0 k1 (by omega) (by omega)
 have w1:=b8 m0 (aH a1)
 obtain ⟨m1,e1⟩ : ∃ m,m = aJ m0 (aH a1):=⟨_,rfl⟩
 rw [← e1] at s1 w1
 try simp at s1
 by_cases z1 : m1 < 0
 ·simp -implicitDefEqProofs [oM,s0,z0,s1,z1]
 have t0:=Kw a0 (by omega)
 try simp at t0
 have q0:=Dz a0 a0 (by omega)
 try simp at q0
 have t1:=DC a1 (by omega)
 try simp at t1
 have q1:=Dy a1 a1 (by omega)
 try simp at q1
 have hS:=KB a0 a1 (by omega) (by omega)
 have hI:=Jr a0 a1 (by omega) (by omega)
 try simp at hS
 try simp at hI
 have b0 : bA (if dV a0 = true then gb a0 a1 else iH)≤1073741824:=(by have:=Jk a0 a1; have h0 : bA iH = 0:=rfl; split <;> omega)
 have r0:=Dz (if dV a0 = true then gb a0 a1 else iH) (if dV a0 = true then gb a0 a1 else iH) (by omega)
 try simp at r0
 have VH:=G7 a0
 have BF:=DA a0 1 (by omega) (by omega)
 obtain ⟨K1,hK1⟩ : ∃ x : Int,1 + ((fV a0 : Nat) : Int) = x:=⟨_,rfl⟩
 rw [hK1] at BF
 try simp at BF
 have hKn : ¬ K1 < 0:=by omega
 have Wf:=G7 (if dV a0 = true then gb a0 a1 else iH)
 have BH:=DA (if dV a0 = true then gb a0 a1 else iH) 1 (by omega) (by omega)
 have Ag:=J5 (if dV a0 = true then gb a0 a1 else iH) 1 (by omega) (by omega)
 obtain ⟨R1,OI⟩ : ∃ x : Int,1 + ((fV (if dV a0 = true then gb a0 a1 else iH) : Nat) : Int) = x:=⟨_,rfl⟩
 rw [OI] at BH Ag
 try simp at BH
 try simp at Ag
 have OJ : ¬ R1 < 0:=by omega
 simp -implicitDefEqProofs [oM,AO,AP,AX,AY,AZ,A0,A1,A4,A5,A6,AQ,AR,AU,AW,s0,z0,s1,z1,t0,q0,t1,q1,hS,hI,r0,BF,hKn,BH,Ag,OJ,s9,ga,mP,jL]
end M
