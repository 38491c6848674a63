/- What the functions come to in the machine; no conditions. -/
import Derived.Test.YtkpkgfollnfhcaaGreatDoorTab
import Derived.Test.YtkpkgfollnfhcaaGreatDoorMc
set_option linter.unusedSectionVars false
set_option linter.unusedVariables false
set_option linter.unusedSimpArgs false
namespace M
open Go
theorem Ht (l : List ah) (hlen : l.length≤9223372036854775807) (hb : bL bS l) (n : Int) (hn : 0≤n) (hm : n≤9223372036854775807) : aE (ai (ev LI TT) (ak TT) pn) [(0,.row .af 1 (l.map (eS))),(1,.int .i64 n),(5,.int .i64 0)] = if cO (fun b n=>av n (wS b)) (l) n < 0 then some (.ret,[(4,.int .i64 (-1))]) else some (.exit 0,[(0,.row .af 1 (l.map (eS))),(1,.int .i64 (cO (fun b n=>av n (wS b)) (l) n)),(5,.int .i64 (l).length),(15,.bool false)]):=by
 refine lV (f:=ai (ev LI TT) (ak TT) pn) (l) (fun i n=>[(0,.row .af 1 (l.map (eS))),(1,.int .i64 n),(5,.int .i64 i)]) (fun b n=>av n (wS b)) _ (fun n=>[(0,.row .af 1 (l.map (eS))),(1,.int .i64 n),(5,.int .i64 (l).length),(15,.bool false)]) n hn hm (fun b n=>l7 _ n) (fun i b n hi hl hn hm=>?_) (fun n=>?_)
 ·have hw:=aL i (by first | omega | (simp at hl; omega))
  obtain ⟨_,rfl⟩:=List.getElem?_eq_some_iff.1 hi
  have h1 : (l[i]).length≤9223372036854775807:=hb.2 _ (List.getElem_mem hl)
  have h3:=aU n (wS l[i])
  have h4 : wS l[i] = (l[i]).length:=rfl
  obtain ⟨m,e1⟩ : ∃ m,m = n - ((l[i]).length : Int):=⟨_,rfl⟩
  have h2 : IntKind.i64.wrap (n - ((l[i]).length : Int)) = m:=by rw [e1]; exact ct (by omega) (by omega)
  by_cases h5 : m < 0
  ·have ef : av n (wS l[i]) = -1:=by omega
   simp -implicitDefEqProofs [pn,wv,hl,hw,h2,h5,ef]
  have ef : av n (wS l[i]) = m:=by omega
  simp -implicitDefEqProofs [pn,wv,hl,hw,h2,h5,ef]
 ·simp -implicitDefEqProofs [pn,wv]
theorem yK (l : List ah) (n : Int) (hb : bL bS l) (hn : 0≤n) (hm : n≤9223372036854775807) : ev LI TT 105 [.row .af 1 (l.map (eS)),.int .i64 n] = some (.int .i64 (av n (wL wS l)),[.dead,.dead]):=by
 rw [ay (b:=pq) (rs:=[.t 4]) (n:=2) rfl rfl]
 have hl:=hb.1
 have hw : wL wS l = l.length + (l.map wS).sum:=rfl
 have ht:=aU n (wL wS l)
 obtain ⟨m,e1⟩ : ∃ m,m = n - (l.length : Int):=⟨_,rfl⟩
 have h2 : IntKind.i64.wrap (n - (l.length : Int)) = m:=by rw [e1]; exact ct (by omega) (by omega)
 by_cases h : m < 0
 ·have ef : av n (wL wS l) = -1:=by omega
  simp -implicitDefEqProofs [pq,h2,h,ef]
 have h3:=Ht  l hb.1 hb m (by omega) (by omega)
 rw [kM _ _ _ (by omega)] at h3
 have hs:=aU m (l.map wS).sum
 obtain ⟨q,e2⟩ : ∃ q,q = av m (l.map wS).sum:=⟨_,rfl⟩
 rw [← e2] at h3 hs
 try simp at h3
 by_cases h4 : q < 0
 ·have ef : av n (wL wS l) = -1:=by omega
  simp only [h4,if_true] at h3
  simp -implicitDefEqProofs [pq,h2,h,h3,ef]
 have ef : av n (wL wS l) = q:=by omega
 simp only [h4,if_false] at h3
 simp -implicitDefEqProofs [pq,h2,h,h3,ef]
 all_goals (repeat' split) <;> first | rfl | omega | (simp_all; done) | (simp_all; omega) | skip
theorem HC (l : List ah) (hlen : l.length≤1048576) (hb : wL wS l≤1048576) : aE (ai (ev LI TT) (ak TT) sM) [(0,.row .af 1 (l.map eS)),(3,.row .own 1 (cC (l.map eS) 0 [.str ⟨#[]⟩])),(4,.int .i64 0),(6,.int .i64 l.length)] = some (.exit 0,[(0,.row .af 1 (l.map eS)),(3,.row .own 1 (l.map eS)),(4,.int .i64 (l).length),(6,.int .i64 l.length),(11,.bool false)]):=by
 refine iX (f:=ai (ev LI TT) (ak TT) sM) (l) (fun i=>[(0,.row .af 1 (l.map eS)),(3,.row .own 1 (cC (l.map eS) i [.str ⟨#[]⟩])),(4,.int .i64 i),(6,.int .i64 l.length)]) _ (fun i b hi hl=>?_) ?_
 ·have hw:=aL i (by first | omega | (simp at hl; omega))
  obtain ⟨_,rfl⟩:=List.getElem?_eq_some_iff.1 hi
  skip
  simp -implicitDefEqProofs [sM,Bk,hl,hw]
  first | done | (rw [eH _ _ _ _ (by simpa using hl) (by simp)]; done) | (simp only [kD]; rw [eH _ _ _ _ (by simpa using hl) (by simp)])
 ·simp -implicitDefEqProofs [sM,Bk]
theorem yO (l : List ah) (hb : wL wS l≤1048576) : ev LI TT 111 [.row .af 1 (l.map eS)] = some (.row .own 1 (l.map eS),[.dead]):=by
 rw [ay (b:=wV) (rs:=[.t 2]) (n:=1) rfl rfl]
 have hlen:=bt (w:=wS) l
 have h:=HC  l (by omega) hb
 try simp at h
 simp -implicitDefEqProofs [wV,h,(by omega : (l.length : Int) * 16≤140737488355328)]
 all_goals (repeat' split) <;> first | rfl | omega | (simp_all; done) | (simp_all; omega) | skip
theorem Hi (ps : List (ah×ah)) (hb : ps.length≤9223372036854775807) (cJ : ∀ x∈ps,wS x.1≤1073741824) : aE (ai (ev LI TT) (ak TT) si) [(0,.row .af 1 (ps.map (fun x : ah×ah=>eS x.1))),(1,.row .af 1 (ps.map (fun x : ah×ah=>eS x.2))),(5,.int .i64 0)] = if aF bE (ps) = true then some (.exit 0,[(0,.row .af 1 (ps.map (fun x : ah×ah=>eS x.1))),(1,.row .af 1 (ps.map (fun x : ah×ah=>eS x.2))),(5,.int .i64 ps.length),(14,.bool false)]) else some (.ret,[(4,.bool false)]):=by
 refine cj (f:=ai (ev LI TT) (ak TT) si) (ps) (fun i=>[(0,.row .af 1 (ps.map (fun x : ah×ah=>eS x.1))),(1,.row .af 1 (ps.map (fun x : ah×ah=>eS x.2))),(5,.int .i64 i)]) bE _ _ (fun i b hi hl=>?_) ?_
 ·have hw:=aL i (by first | omega | (simp at hl; omega))
  obtain ⟨_,rfl⟩:=List.getElem?_eq_some_iff.1 hi
  simp -implicitDefEqProofs [si,A4,hl,hw,bE]
  first | done | (split <;> simp_all)
 ·simp -implicitDefEqProofs [si,A4]
theorem yG (a b : List ah) (hb : wL wS a≤1073741824) : ev LI TT 77 [.row .af 1 (a.map eS),.row .af 1 (b.map eS)] = some (.bool (decide (a = b)),[.dead,.dead]):=by
 rw [ay (b:=wq) (rs:=[.t 4]) (n:=2) rfl rfl]
 simp -implicitDefEqProofs [wq]
 have hlen:=bt (w:=wS) a
 by_cases h : a.length = b.length
 ·obtain ⟨ps,rfl,rfl⟩:=iD h
  have h1:=Hi  ps (by simp at hlen; omega) (fun x hx=>Nat.le_trans (dF (List.mem_map_of_mem hx)) hb)
  have h2:=gU ps
  simp at h1
  rw [← h2]
  cases h3 : aF bE ps <;> rw [h3] at h1 <;> simp [h1,Function.comp_def]
 ·have : ¬ a = b:=fun e=>h (by rw [e])
  simp [this]
  omega
theorem Jx (a : Wr) (n : Int) (hb : n9 a) (hn : 0≤n) (hm : n≤9223372036854775807) : ev LI TT 211 [.agg (eW a),.int .i64 n] = some (.int .i64 (av n (bV a)),[.dead,.dead]):=by
 rw [ay (b:=sE) (rs:=[.t 4]) (n:=2) rfl rfl]
 have hw : bV a = a.text.length:=rfl
 have ht:=aU n (bV a)
 have mL : a.text.length≤9223372036854775807:=hb.O9
 obtain ⟨m1,e1⟩ : ∃ m,m = n - (a.text.length : Int):=⟨_,rfl⟩
 have c1 : IntKind.i64.wrap (n - (a.text.length : Int)) = m1:=by rw [e1]; exact ct (by omega) (by omega)
 by_cases h1 : m1 < 0
 ·have ef : av n (bV a) = -1:=by omega
  simp -implicitDefEqProofs [sE,c1,h1,ef]
 have ef : av n (bV a) = m1:=by omega
 simp -implicitDefEqProofs [sE,c1,h1,ef]
 all_goals (repeat' split) <;> first | rfl | omega | (simp_all; done) | (simp_all; omega) | skip
theorem JO (a : Wr) (hb : bV a≤1048576) : ev LI TT 218 [.agg (eW a)] = some (.agg (eW a),[.dead]):=by
 rw [ay (b:=wX) (rs:=[.c 2 2 true 246]) (n:=1) rfl rfl]
 have hw : bV a = a.text.length:=rfl
 simp -implicitDefEqProofs [wX,hw]
 all_goals (repeat' split) <;> first | rfl | omega | (simp_all; done) | (simp_all; omega) | skip
theorem Jg (a b : Wr) (hb : bV a≤1073741824) : ev LI TT 227 [.agg (eW a),.agg (eW b)] = some (.bool (decide (a = b)),[.dead,.dead]):=by
 rw [ay (b:=oT) (rs:=[.t 4]) (n:=2) rfl rfl]
 have hw : bV a = a.text.length:=rfl
 rw [KS]
 by_cases g1 : a.at_ = b.at_
 rotate_left
 ·simp -implicitDefEqProofs [oT,eq_false g1]
 by_cases g2 : a.text = b.text
 rotate_left
 ·simp -implicitDefEqProofs [oT,eq_true g1,eq_false g2]
 simp -implicitDefEqProofs [oT,eq_true g1,eq_true g2]
 all_goals (repeat' split) <;> first | rfl | omega | (simp_all; done) | (simp_all; omega) | skip
theorem Hu (l : List Wr) (hlen : l.length≤9223372036854775807) (hb : bL n9 l) (n : Int) (hn : 0≤n) (hm : n≤9223372036854775807) : aE (ai (ev LI TT) (ak TT) sD) [(0,.row .af 2 (l.map (eW))),(1,.int .i64 n),(5,.int .i64 0)] = if cO (fun b n=>av n (bV b)) (l) n < 0 then some (.ret,[(4,.int .i64 (-1))]) else some (.exit 0,[(0,.row .af 2 (l.map (eW))),(1,.int .i64 (cO (fun b n=>av n (bV b)) (l) n)),(5,.int .i64 (l).length),(15,.bool false)]):=by
 refine lV (f:=ai (ev LI TT) (ak TT) sD) (l) (fun i n=>[(0,.row .af 2 (l.map (eW))),(1,.int .i64 n),(5,.int .i64 i)]) (fun b n=>av n (bV b)) _ (fun n=>[(0,.row .af 2 (l.map (eW))),(1,.int .i64 n),(5,.int .i64 (l).length),(15,.bool false)]) n hn hm (fun b n=>l7 _ n) (fun i b n hi hl hn hm=>?_) (fun n=>?_)
 ·have hw:=aL i (by first | omega | (simp at hl; omega))
  obtain ⟨_,rfl⟩:=List.getElem?_eq_some_iff.1 hi
  have h2:=Jx  l[i] n (hb.2 _ (List.getElem_mem hl)) hn hm
  obtain ⟨m,e1⟩ : ∃ m,m = av n (bV l[i]):=⟨_,rfl⟩
  rw [← e1] at h2 ⊢
  try simp at h2
  simp -implicitDefEqProofs [sD,Bc,hl,hw,h2]
 ·simp -implicitDefEqProofs [sD,Bc]
theorem Jy (l : List Wr) (n : Int) (hb : bL n9 l) (hn : 0≤n) (hm : n≤9223372036854775807) : ev LI TT 118 [.row .af 2 (l.map (eW)),.int .i64 n] = some (.int .i64 (av n (wL bV l)),[.dead,.dead]):=by
 rw [ay (b:=pz) (rs:=[.t 4]) (n:=2) rfl rfl]
 have hl:=hb.1
 have hw : wL bV l = l.length + (l.map bV).sum:=rfl
 have ht:=aU n (wL bV l)
 obtain ⟨m,e1⟩ : ∃ m,m = n - (l.length : Int):=⟨_,rfl⟩
 have h2 : IntKind.i64.wrap (n - (l.length : Int)) = m:=by rw [e1]; exact ct (by omega) (by omega)
 by_cases h : m < 0
 ·have ef : av n (wL bV l) = -1:=by omega
  simp -implicitDefEqProofs [pz,h2,h,ef]
 have h3:=Hu  l hb.1 hb m (by omega) (by omega)
 rw [kM _ _ _ (by omega)] at h3
 have hs:=aU m (l.map bV).sum
 obtain ⟨q,e2⟩ : ∃ q,q = av m (l.map bV).sum:=⟨_,rfl⟩
 rw [← e2] at h3 hs
 try simp at h3
 by_cases h4 : q < 0
 ·have ef : av n (wL bV l) = -1:=by omega
  simp only [h4,if_true] at h3
  simp -implicitDefEqProofs [pz,h2,h,h3,ef]
 have ef : av n (wL bV l) = q:=by omega
 simp only [h4,if_false] at h3
 simp -implicitDefEqProofs [pz,h2,h,h3,ef]
 all_goals (repeat' split) <;> first | rfl | omega | (simp_all; done) | (simp_all; omega) | skip
theorem HD (l : List Wr) (hlen : l.length≤1048576) (hb : wL bV l≤1048576) : aE (ai (ev LI TT) (ak TT) sN) [(0,.row .af 2 (l.map eW)),(3,.row .own 2 (cC (l.map eW) 0 [.int .i64 0,.str ⟨#[]⟩])),(4,.int .i64 0),(6,.int .i64 l.length)] = some (.exit 0,[(0,.row .af 2 (l.map eW)),(3,.row .own 2 (l.map eW)),(4,.int .i64 (l).length),(6,.int .i64 l.length),(11,.bool false)]):=by
 refine iX (f:=ai (ev LI TT) (ak TT) sN) (l) (fun i=>[(0,.row .af 2 (l.map eW)),(3,.row .own 2 (cC (l.map eW) i [.int .i64 0,.str ⟨#[]⟩])),(4,.int .i64 i),(6,.int .i64 l.length)]) _ (fun i b hi hl=>?_) ?_
 ·have hw:=aL i (by first | omega | (simp at hl; omega))
  obtain ⟨_,rfl⟩:=List.getElem?_eq_some_iff.1 hi
  have h:=JO  l[i] (Nat.le_trans (dF (List.getElem_mem hl)) hb)
  try simp at h
  simp -implicitDefEqProofs [sN,Bl,hl,hw,h]
  first | done | (rw [eH _ _ _ _ (by simpa using hl) (by simp)]; done) | (simp only [kD]; rw [eH _ _ _ _ (by simpa using hl) (by simp)])
 ·simp -implicitDefEqProofs [sN,Bl]
theorem JP (l : List Wr) (hb : wL bV l≤1048576) : ev LI TT 127 [.row .af 2 (l.map eW)] = some (.row .own 2 (l.map eW),[.dead]):=by
 rw [ay (b:=wW) (rs:=[.t 2]) (n:=1) rfl rfl]
 have hlen:=bt (w:=bV) l
 have h:=HD  l (by omega) hb
 try simp at h
 simp -implicitDefEqProofs [wW,h,(by omega : (l.length : Int) * 24≤140737488355328)]
 all_goals (repeat' split) <;> first | rfl | omega | (simp_all; done) | (simp_all; omega) | skip
theorem Hj (ps : List (Wr×Wr)) (hb : ps.length≤9223372036854775807) (cJ : ∀ x∈ps,bV x.1≤1073741824) : aE (ai (ev LI TT) (ak TT) sj) [(0,.row .af 2 (ps.map (fun x : Wr×Wr=>eW x.1))),(1,.row .af 2 (ps.map (fun x : Wr×Wr=>eW x.2))),(5,.int .i64 0)] = if aF bE (ps) = true then some (.exit 0,[(0,.row .af 2 (ps.map (fun x : Wr×Wr=>eW x.1))),(1,.row .af 2 (ps.map (fun x : Wr×Wr=>eW x.2))),(5,.int .i64 ps.length),(14,.bool false)]) else some (.ret,[(4,.bool false)]):=by
 refine cj (f:=ai (ev LI TT) (ak TT) sj) (ps) (fun i=>[(0,.row .af 2 (ps.map (fun x : Wr×Wr=>eW x.1))),(1,.row .af 2 (ps.map (fun x : Wr×Wr=>eW x.2))),(5,.int .i64 i)]) bE _ _ (fun i b hi hl=>?_) ?_
 ·have hw:=aL i (by first | omega | (simp at hl; omega))
  obtain ⟨_,rfl⟩:=List.getElem?_eq_some_iff.1 hi
  have h:=Jg  (ps[i]).1 (ps[i]).2 (cJ _ (List.getElem_mem hl)); try simp at h
  simp -implicitDefEqProofs [sj,A5,hl,hw,bE,h]
 ·simp -implicitDefEqProofs [sj,A5]
theorem Jh (a b : List Wr) (hb : wL bV a≤1073741824) : ev LI TT 132 [.row .af 2 (a.map eW),.row .af 2 (b.map eW)] = some (.bool (decide (a = b)),[.dead,.dead]):=by
 rw [ay (b:=wu) (rs:=[.t 4]) (n:=2) rfl rfl]
 simp -implicitDefEqProofs [wu]
 have hlen:=bt (w:=bV) a
 by_cases h : a.length = b.length
 ·obtain ⟨ps,rfl,rfl⟩:=iD h
  have h1:=Hj  ps (by simp at hlen; omega) (fun x hx=>Nat.le_trans (dF (List.mem_map_of_mem hx)) hb)
  have h2:=gU ps
  simp at h1
  rw [← h2]
  cases h3 : aF bE ps <;> rw [h3] at h1 <;> simp [h1,Function.comp_def]
 ·have : ¬ a = b:=fun e=>h (by rw [e])
  simp [this]
  omega
theorem Jl (a : eu) (n : Int) (hb : yo a) (hn : 0≤n) (hm : n≤9223372036854775807) : ev LI TT 44 [.agg ((ga .af) a),.int .i64 n] = some (.int .i64 (av n (cP a)),[.dead,.dead]):=by
 rw [ay (b:=oW) (rs:=[.t 4]) (n:=2) rfl rfl]
 have hw : cP a = wL wS a.cells + wL bV a.pending:=rfl
 have ht:=aU n (cP a)
 have c1:=yK  a.cells n hb.OW (by omega) (by omega)
 have s1:=aU n (wL wS a.cells)
 obtain ⟨m1,e1⟩ : ∃ m,m = av n (wL wS a.cells):=⟨_,rfl⟩
 rw [← e1] at c1 s1
 try simp at c1
 by_cases h1 : m1 < 0
 ·have ef : av n (cP a) = -1:=by omega
  simp -implicitDefEqProofs [oW,c1,h1,ef]
 have c2:=Jy  a.pending m1 hb.O4 (by omega) (by omega)
 have s2:=aU m1 (wL bV a.pending)
 obtain ⟨m2,e2⟩ : ∃ m,m = av m1 (wL bV a.pending):=⟨_,rfl⟩
 rw [← e2] at c2 s2
 try simp at c2
 by_cases h2 : m2 < 0
 ·have ef : av n (cP a) = -1:=by omega
  simp -implicitDefEqProofs [oW,c1,h1,c2,h2,ef]
 have ef : av n (cP a) = m2:=by omega
 simp -implicitDefEqProofs [oW,c1,h1,c2,h2,ef]
 all_goals (repeat' split) <;> first | rfl | omega | (simp_all; done) | (simp_all; omega) | skip
theorem JC (a : eu) (hb : cP a≤1048576) : ev LI TT 46 [.agg ((ga .af) a)] = some (.agg ((ga .own) a),[.dead]):=by
 rw [ay (b:=wC) (rs:=[.c 2 2 true 39]) (n:=1) rfl rfl]
 have hw : cP a = wL wS a.cells + wL bV a.pending:=rfl
 have h1:=yO  a.cells (by omega)
 try simp at h1
 have h2:=JP  a.pending (by omega)
 try simp at h2
 simp -implicitDefEqProofs [wC,h1,h2,hw]
 all_goals (repeat' split) <;> first | rfl | omega | (simp_all; done) | (simp_all; omega) | skip
theorem I4 (a b : eu) (hb : cP a≤1073741824) : ev LI TT 48 [.agg ((ga .af) a),.agg ((ga .af) b)] = some (.bool (decide (a = b)),[.dead,.dead]):=by
 rw [ay (b:=oR) (rs:=[.t 4]) (n:=2) rfl rfl]
 have hw : cP a = wL wS a.cells + wL bV a.pending:=rfl
 rw [KI]
 have c1:=yG  a.cells b.cells (by omega)
 cases g1 : decide (a.cells = b.cells)
 ·rw [g1] at c1
  try simp at c1
  simp -implicitDefEqProofs [oR,c1]
 rw [g1] at c1
 try simp at c1
 have c2:=Jh  a.pending b.pending (by omega)
 cases g2 : decide (a.pending = b.pending)
 ·rw [g2] at c2
  try simp at c2
  simp -implicitDefEqProofs [oR,c1,c2]
 rw [g2] at c2
 try simp at c2
 simp -implicitDefEqProofs [oR,c1,c2]
 all_goals (repeat' split) <;> first | rfl | omega | (simp_all; done) | (simp_all; omega) | skip
theorem Jm (a : aK) (n : Int) (hb : kY a) (hn : 0≤n) (hm : n≤9223372036854775807) : ev LI TT 159 [.agg (aG a),.int .i64 n] = some (.int .i64 (av n (aJ a)),[.dead,.dead]):=by
 rw [ay (b:=oY) (rs:=[.t 4]) (n:=2) rfl rfl]
 have hw : aJ a = a.name.length + a.value.length:=rfl
 have ht:=aU n (aJ a)
 have mL : a.name.length≤9223372036854775807:=hb.O0
 obtain ⟨m1,e1⟩ : ∃ m,m = n - (a.name.length : Int):=⟨_,rfl⟩
 have c1 : IntKind.i64.wrap (n - (a.name.length : Int)) = m1:=by rw [e1]; exact ct (by omega) (by omega)
 by_cases h1 : m1 < 0
 ·have ef : av n (aJ a) = -1:=by omega
  simp -implicitDefEqProofs [oY,c1,h1,ef]
 have iO : a.value.length≤9223372036854775807:=hb.Pa
 obtain ⟨m2,e2⟩ : ∃ m,m = m1 - (a.value.length : Int):=⟨_,rfl⟩
 have c2 : IntKind.i64.wrap (m1 - (a.value.length : Int)) = m2:=by rw [e2]; exact ct (by omega) (by omega)
 by_cases h2 : m2 < 0
 ·have ef : av n (aJ a) = -1:=by omega
  simp -implicitDefEqProofs [oY,c1,h1,c2,h2,ef]
 have ef : av n (aJ a) = m2:=by omega
 simp -implicitDefEqProofs [oY,c1,h1,c2,h2,ef]
 all_goals (repeat' split) <;> first | rfl | omega | (simp_all; done) | (simp_all; omega) | skip
theorem JD (a : aK) (hb : aJ a≤1048576) : ev LI TT 167 [.agg (aG a)] = some (.agg (aG a),[.dead]):=by
 rw [ay (b:=wE) (rs:=[.c 2 2 true 214]) (n:=1) rfl rfl]
 have hw : aJ a = a.name.length + a.value.length:=rfl
 simp -implicitDefEqProofs [wE,hw]
 all_goals (repeat' split) <;> first | rfl | omega | (simp_all; done) | (simp_all; omega) | skip
theorem I5 (a b : aK) (hb : aJ a≤1073741824) : ev LI TT 171 [.agg (aG a),.agg (aG b)] = some (.bool (decide (a = b)),[.dead,.dead]):=by
 rw [ay (b:=oS) (rs:=[.t 4]) (n:=2) rfl rfl]
 have hw : aJ a = a.name.length + a.value.length:=rfl
 rw [KK]
 by_cases g1 : a.name = b.name
 rotate_left
 ·simp -implicitDefEqProofs [oS,eq_false g1]
 by_cases g2 : a.value = b.value
 rotate_left
 ·simp -implicitDefEqProofs [oS,eq_true g1,eq_false g2]
 simp -implicitDefEqProofs [oS,eq_true g1,eq_true g2]
 all_goals (repeat' split) <;> first | rfl | omega | (simp_all; done) | (simp_all; omega) | skip
theorem Ho (l : List aK) (hlen : l.length≤9223372036854775807) (hb : bL kY l) (n : Int) (hn : 0≤n) (hm : n≤9223372036854775807) : aE (ai (ev LI TT) (ak TT) su) [(0,.row .af 2 (l.map (aG))),(1,.int .i64 n),(5,.int .i64 0)] = if cO (fun b n=>av n (aJ b)) (l) n < 0 then some (.ret,[(4,.int .i64 (-1))]) else some (.exit 0,[(0,.row .af 2 (l.map (aG))),(1,.int .i64 (cO (fun b n=>av n (aJ b)) (l) n)),(5,.int .i64 (l).length),(15,.bool false)]):=by
 refine lV (f:=ai (ev LI TT) (ak TT) su) (l) (fun i n=>[(0,.row .af 2 (l.map (aG))),(1,.int .i64 n),(5,.int .i64 i)]) (fun b n=>av n (aJ b)) _ (fun n=>[(0,.row .af 2 (l.map (aG))),(1,.int .i64 n),(5,.int .i64 (l).length),(15,.bool false)]) n hn hm (fun b n=>l7 _ n) (fun i b n hi hl hn hm=>?_) (fun n=>?_)
 ·have hw:=aL i (by first | omega | (simp at hl; omega))
  obtain ⟨_,rfl⟩:=List.getElem?_eq_some_iff.1 hi
  have h2:=Jm  l[i] n (hb.2 _ (List.getElem_mem hl)) hn hm
  obtain ⟨m,e1⟩ : ∃ m,m = av n (aJ l[i]):=⟨_,rfl⟩
  rw [← e1] at h2 ⊢
  try simp at h2
  simp -implicitDefEqProofs [su,A7,hl,hw,h2]
 ·simp -implicitDefEqProofs [su,A7]
theorem C3 (l : List aK) (n : Int) (hb : bL kY l) (hn : 0≤n) (hm : n≤9223372036854775807) : ev LI TT 69 [.row .af 2 (l.map (aG)),.int .i64 n] = some (.int .i64 (av n (wL aJ l)),[.dead,.dead]):=by
 rw [ay (b:=oX) (rs:=[.t 4]) (n:=2) rfl rfl]
 have hl:=hb.1
 have hw : wL aJ l = l.length + (l.map aJ).sum:=rfl
 have ht:=aU n (wL aJ l)
 obtain ⟨m,e1⟩ : ∃ m,m = n - (l.length : Int):=⟨_,rfl⟩
 have h2 : IntKind.i64.wrap (n - (l.length : Int)) = m:=by rw [e1]; exact ct (by omega) (by omega)
 by_cases h : m < 0
 ·have ef : av n (wL aJ l) = -1:=by omega
  simp -implicitDefEqProofs [oX,h2,h,ef]
 have h3:=Ho  l hb.1 hb m (by omega) (by omega)
 rw [kM _ _ _ (by omega)] at h3
 have hs:=aU m (l.map aJ).sum
 obtain ⟨q,e2⟩ : ∃ q,q = av m (l.map aJ).sum:=⟨_,rfl⟩
 rw [← e2] at h3 hs
 try simp at h3
 by_cases h4 : q < 0
 ·have ef : av n (wL aJ l) = -1:=by omega
  simp only [h4,if_true] at h3
  simp -implicitDefEqProofs [oX,h2,h,h3,ef]
 have ef : av n (wL aJ l) = q:=by omega
 simp only [h4,if_false] at h3
 simp -implicitDefEqProofs [oX,h2,h,h3,ef]
 all_goals (repeat' split) <;> first | rfl | omega | (simp_all; done) | (simp_all; omega) | skip
theorem Hw (l : List aK) (hlen : l.length≤1048576) (hb : wL aJ l≤1048576) : aE (ai (ev LI TT) (ak TT) sG) [(0,.row .af 2 (l.map aG)),(3,.row .own 2 (cC (l.map aG) 0 [.str ⟨#[]⟩,.str ⟨#[]⟩])),(4,.int .i64 0),(6,.int .i64 l.length)] = some (.exit 0,[(0,.row .af 2 (l.map aG)),(3,.row .own 2 (l.map aG)),(4,.int .i64 (l).length),(6,.int .i64 l.length),(11,.bool false)]):=by
 refine iX (f:=ai (ev LI TT) (ak TT) sG) (l) (fun i=>[(0,.row .af 2 (l.map aG)),(3,.row .own 2 (cC (l.map aG) i [.str ⟨#[]⟩,.str ⟨#[]⟩])),(4,.int .i64 i),(6,.int .i64 l.length)]) _ (fun i b hi hl=>?_) ?_
 ·have hw:=aL i (by first | omega | (simp at hl; omega))
  obtain ⟨_,rfl⟩:=List.getElem?_eq_some_iff.1 hi
  have h:=JD  l[i] (Nat.le_trans (dF (List.getElem_mem hl)) hb)
  try simp at h
  simp -implicitDefEqProofs [sG,Be,hl,hw,h]
  first | done | (rw [eH _ _ _ _ (by simpa using hl) (by simp)]; done) | (simp only [kD]; rw [eH _ _ _ _ (by simpa using hl) (by simp)])
 ·simp -implicitDefEqProofs [sG,Be]
theorem C4 (l : List aK) (hb : wL aJ l≤1048576) : ev LI TT 75 [.row .af 2 (l.map aG)] = some (.row .own 2 (l.map aG),[.dead]):=by
 rw [ay (b:=wD) (rs:=[.t 2]) (n:=1) rfl rfl]
 have hlen:=bt (w:=aJ) l
 have h:=Hw  l (by omega) hb
 try simp at h
 simp -implicitDefEqProofs [wD,h,(by omega : (l.length : Int) * 32≤140737488355328)]
 all_goals (repeat' split) <;> first | rfl | omega | (simp_all; done) | (simp_all; omega) | skip
theorem G8 (ps : List (aK×aK)) (hb : ps.length≤9223372036854775807) (cJ : ∀ x∈ps,aJ x.1≤1073741824) : aE (ai (ev LI TT) (ak TT) rX) [(0,.row .af 2 (ps.map (fun x : aK×aK=>aG x.1))),(1,.row .af 2 (ps.map (fun x : aK×aK=>aG x.2))),(5,.int .i64 0)] = if aF bE (ps) = true then some (.exit 0,[(0,.row .af 2 (ps.map (fun x : aK×aK=>aG x.1))),(1,.row .af 2 (ps.map (fun x : aK×aK=>aG x.2))),(5,.int .i64 ps.length),(14,.bool false)]) else some (.ret,[(4,.bool false)]):=by
 refine cj (f:=ai (ev LI TT) (ak TT) rX) (ps) (fun i=>[(0,.row .af 2 (ps.map (fun x : aK×aK=>aG x.1))),(1,.row .af 2 (ps.map (fun x : aK×aK=>aG x.2))),(5,.int .i64 i)]) bE _ _ (fun i b hi hl=>?_) ?_
 ·have hw:=aL i (by first | omega | (simp at hl; omega))
  obtain ⟨_,rfl⟩:=List.getElem?_eq_some_iff.1 hi
  have h:=I5  (ps[i]).1 (ps[i]).2 (cJ _ (List.getElem_mem hl)); try simp at h
  simp -implicitDefEqProofs [rX,AW,hl,hw,bE,h]
 ·simp -implicitDefEqProofs [rX,AW]
theorem C0 (a b : List aK) (hb : wL aJ a≤1073741824) : ev LI TT 81 [.row .af 2 (a.map aG),.row .af 2 (b.map aG)] = some (.bool (decide (a = b)),[.dead,.dead]):=by
 rw [ay (b:=wg) (rs:=[.t 4]) (n:=2) rfl rfl]
 simp -implicitDefEqProofs [wg]
 have hlen:=bt (w:=aJ) a
 by_cases h : a.length = b.length
 ·obtain ⟨ps,rfl,rfl⟩:=iD h
  have h1:=G8  ps (by simp at hlen; omega) (fun x hx=>Nat.le_trans (dF (List.mem_map_of_mem hx)) hb)
  have h2:=gU ps
  simp at h1
  rw [← h2]
  cases h3 : aF bE ps <;> rw [h3] at h1 <;> simp [h1,Function.comp_def]
 ·have : ¬ a = b:=fun e=>h (by rw [e])
  simp [this]
  omega
theorem yJ (a : dh) (n : Int) (hb : n7 a) (hn : 0≤n) (hm : n≤9223372036854775807) : ev LI TT 106 [.agg ((gZ .af) a),.int .i64 n] = some (.int .i64 (av n (bY a)),[.dead,.dead]):=by
 rw [ay (b:=o8) (rs:=[.t 4]) (n:=2) rfl rfl]
 have hw : bY a = wL aJ a.fields + a.body.length:=rfl
 have ht:=aU n (bY a)
 have c1:=C3  a.fields n hb.AL (by omega) (by omega)
 have s1:=aU n (wL aJ a.fields)
 obtain ⟨m1,e1⟩ : ∃ m,m = av n (wL aJ a.fields):=⟨_,rfl⟩
 rw [← e1] at c1 s1
 try simp at c1
 by_cases h1 : m1 < 0
 ·have ef : av n (bY a) = -1:=by omega
  simp -implicitDefEqProofs [o8,c1,h1,ef]
 have iO : a.body.length≤9223372036854775807:=hb.AK
 obtain ⟨m2,e2⟩ : ∃ m,m = m1 - (a.body.length : Int):=⟨_,rfl⟩
 have c2 : IntKind.i64.wrap (m1 - (a.body.length : Int)) = m2:=by rw [e2]; exact ct (by omega) (by omega)
 by_cases h2 : m2 < 0
 ·have ef : av n (bY a) = -1:=by omega
  simp -implicitDefEqProofs [o8,c1,h1,c2,h2,ef]
 have ef : av n (bY a) = m2:=by omega
 simp -implicitDefEqProofs [o8,c1,h1,c2,h2,ef]
 all_goals (repeat' split) <;> first | rfl | omega | (simp_all; done) | (simp_all; omega) | skip
theorem yN (a : dh) (hb : bY a≤1048576) : ev LI TT 112 [.agg ((gZ .af) a)] = some (.agg ((gZ .own) a),[.dead]):=by
 rw [ay (b:=wQ) (rs:=[.c 2 3 true 59]) (n:=1) rfl rfl]
 have hw : bY a = wL aJ a.fields + a.body.length:=rfl
 have h1:=C4  a.fields (by omega)
 try simp at h1
 simp -implicitDefEqProofs [wQ,h1,hw]
 all_goals (repeat' split) <;> first | rfl | omega | (simp_all; done) | (simp_all; omega) | skip
theorem yF (a b : dh) (hb : bY a≤1073741824) : ev LI TT 78 [.agg ((gZ .af) a),.agg ((gZ .af) b)] = some (.bool (decide (a = b)),[.dead,.dead]):=by
 rw [ay (b:=nh) (rs:=[.t 4]) (n:=2) rfl rfl]
 have hw : bY a = wL aJ a.fields + a.body.length:=rfl
 rw [KP]
 by_cases g1 : a.status = b.status
 rotate_left
 ·simp -implicitDefEqProofs [nh,eq_false g1]
 have c2:=C0  a.fields b.fields (by omega)
 cases g2 : decide (a.fields = b.fields)
 ·rw [g2] at c2
  try simp at c2
  simp -implicitDefEqProofs [nh,eq_true g1,c2]
 rw [g2] at c2
 try simp at c2
 by_cases g3 : a.body = b.body
 rotate_left
 ·simp -implicitDefEqProofs [nh,eq_true g1,c2,eq_false g3]
 simp -implicitDefEqProofs [nh,eq_true g1,c2,eq_true g3]
 all_goals (repeat' split) <;> first | rfl | omega | (simp_all; done) | (simp_all; omega) | skip
theorem yH (a : Ob) (n : Int) (hb : qB a) (hn : 0≤n) (hm : n≤9223372036854775807) : ev LI TT 38 [.agg ((eE .af) a),.int .i64 n] = some (.int .i64 (av n (bT a)),[.dead,.dead]):=by
 rw [ay (b:=lU) (rs:=[.t 4]) (n:=2) rfl rfl]
 have hw : bT a = a.path.length + wL wS a.names + wL wS a.values + bY a.resp:=rfl
 have ht:=aU n (bT a)
 have mL : a.path.length≤9223372036854775807:=hb.AN
 obtain ⟨m1,e1⟩ : ∃ m,m = n - (a.path.length : Int):=⟨_,rfl⟩
 have c1 : IntKind.i64.wrap (n - (a.path.length : Int)) = m1:=by rw [e1]; exact ct (by omega) (by omega)
 by_cases h1 : m1 < 0
 ·have ef : av n (bT a) = -1:=by omega
  simp -implicitDefEqProofs [lU,c1,h1,ef]
 have c2:=yK  a.names m1 hb.O1 (by omega) (by omega)
 have s2:=aU m1 (wL wS a.names)
 obtain ⟨m2,e2⟩ : ∃ m,m = av m1 (wL wS a.names):=⟨_,rfl⟩
 rw [← e2] at c2 s2
 try simp at c2
 by_cases h2 : m2 < 0
 ·have ef : av n (bT a) = -1:=by omega
  simp -implicitDefEqProofs [lU,c1,h1,c2,h2,ef]
 have c3:=yK  a.values m2 hb.Pb (by omega) (by omega)
 have s3:=aU m2 (wL wS a.values)
 obtain ⟨m3,e3⟩ : ∃ m,m = av m2 (wL wS a.values):=⟨_,rfl⟩
 rw [← e3] at c3 s3
 try simp at c3
 by_cases h3 : m3 < 0
 ·have ef : av n (bT a) = -1:=by omega
  simp -implicitDefEqProofs [lU,c1,h1,c2,h2,c3,h3,ef]
 have c4:=yJ  a.resp m3 hb.oO (by omega) (by omega)
 have s4:=aU m3 (bY a.resp)
 obtain ⟨m4,e4⟩ : ∃ m,m = av m3 (bY a.resp):=⟨_,rfl⟩
 rw [← e4] at c4 s4
 try simp at c4
 by_cases h4 : m4 < 0
 ·have ef : av n (bT a) = -1:=by omega
  simp -implicitDefEqProofs [lU,c1,h1,c2,h2,c3,h3,c4,h4,ef]
 have ef : av n (bT a) = m4:=by omega
 simp -implicitDefEqProofs [lU,c1,h1,c2,h2,c3,h3,c4,h4,ef]
 all_goals (repeat' split) <;> first | rfl | omega | (simp_all; done) | (simp_all; omega) | skip
theorem yL (a : Ob) (hb : bT a≤1048576) : ev LI TT 40 [.agg ((eE .af) a)] = some (.agg ((eE .own) a),[.dead]):=by
 rw [ay (b:=wK) (rs:=[.c 2 7 true 61]) (n:=1) rfl rfl]
 have hw : bT a = a.path.length + wL wS a.names + wL wS a.values + bY a.resp:=rfl
 have h1:=yO  a.names (by omega)
 try simp at h1
 have h2:=yO  a.values (by omega)
 try simp at h2
 have h3:=yN  a.resp (by omega)
 try simp at h3
 simp -implicitDefEqProofs [wK,h1,h2,h3,hw]
 all_goals (repeat' split) <;> first | rfl | omega | (simp_all; done) | (simp_all; omega) | skip
theorem yC (a b : Ob) (hb : bT a≤1073741824) : ev LI TT 24 [.agg ((eE .af) a),.agg ((eE .af) b)] = some (.bool (decide (a = b)),[.dead,.dead]):=by
 rw [ay (b:=kz) (rs:=[.t 4]) (n:=2) rfl rfl]
 have hw : bT a = a.path.length + wL wS a.names + wL wS a.values + bY a.resp:=rfl
 rw [KM]
 by_cases g1 : a.path = b.path
 rotate_left
 ·simp -implicitDefEqProofs [kz,eq_false g1]
 have c2:=yG  a.names b.names (by omega)
 cases g2 : decide (a.names = b.names)
 ·rw [g2] at c2
  try simp at c2
  simp -implicitDefEqProofs [kz,eq_true g1,c2]
 rw [g2] at c2
 try simp at c2
 have c3:=yG  a.values b.values (by omega)
 cases g3 : decide (a.values = b.values)
 ·rw [g3] at c3
  try simp at c3
  simp -implicitDefEqProofs [kz,eq_true g1,c2,c3]
 rw [g3] at c3
 try simp at c3
 have c4:=yF  a.resp b.resp (by omega)
 cases g4 : decide (a.resp = b.resp)
 ·rw [g4] at c4
  try simp at c4
  simp -implicitDefEqProofs [kz,eq_true g1,c2,c3,c4]
 rw [g4] at c4
 try simp at c4
 by_cases g5 : a.t = b.t
 rotate_left
 ·simp -implicitDefEqProofs [kz,eq_true g1,c2,c3,c4,eq_false g5]
 simp -implicitDefEqProofs [kz,eq_true g1,c2,c3,c4,eq_true g5]
 all_goals (repeat' split) <;> first | rfl | omega | (simp_all; done) | (simp_all; omega) | skip
theorem Jq (a : Kp) (n : Int) (hb : n4 a) (hn : 0≤n) (hm : n≤9223372036854775807) : ev LI TT 158 [.agg ((aY .af) a),.int .i64 n] = some (.int .i64 (av n (bx a)),[.dead,.dead]):=by
 rw [ay (b:=sA) (rs:=[.t 4]) (n:=2) rfl rfl]
 have hw : bx a = bT a.obj:=rfl
 have ht:=aU n (bx a)
 have c1:=yH  a.obj n hb.AM (by omega) (by omega)
 have s1:=aU n (bT a.obj)
 obtain ⟨m1,e1⟩ : ∃ m,m = av n (bT a.obj):=⟨_,rfl⟩
 rw [← e1] at c1 s1
 try simp at c1
 by_cases h1 : m1 < 0
 ·have ef : av n (bx a) = -1:=by omega
  simp -implicitDefEqProofs [sA,c1,h1,ef]
 have ef : av n (bx a) = m1:=by omega
 simp -implicitDefEqProofs [sA,c1,h1,ef]
 all_goals (repeat' split) <;> first | rfl | omega | (simp_all; done) | (simp_all; omega) | skip
theorem JH (a : Kp) (hb : bx a≤1048576) : ev LI TT 166 [.agg ((aY .af) a)] = some (.agg ((aY .own) a),[.dead]):=by
 rw [ay (b:=wJ) (rs:=[.c 2 9 true 108]) (n:=1) rfl rfl]
 have hw : bx a = bT a.obj:=rfl
 have h1:=yL  a.obj (by omega)
 try simp at h1
 simp -implicitDefEqProofs [wJ,h1,hw]
 all_goals (repeat' split) <;> first | rfl | omega | (simp_all; done) | (simp_all; omega) | skip
theorem I9 (a b : Kp) (hb : bx a≤1073741824) : ev LI TT 169 [.agg ((aY .af) a),.agg ((aY .af) b)] = some (.bool (decide (a = b)),[.dead,.dead]):=by
 rw [ay (b:=ng) (rs:=[.t 4]) (n:=2) rfl rfl]
 have hw : bx a = bT a.obj:=rfl
 rw [KL]
 have c1:=yC  a.obj b.obj (by omega)
 cases g1 : decide (a.obj = b.obj)
 ·rw [g1] at c1
  try simp at c1
  simp -implicitDefEqProofs [ng,c1]
 rw [g1] at c1
 try simp at c1
 by_cases g2 : a.at_ = b.at_
 rotate_left
 ·simp -implicitDefEqProofs [ng,c1,eq_false g2]
 by_cases g3 : a.seq = b.seq
 rotate_left
 ·simp -implicitDefEqProofs [ng,c1,eq_true g2,eq_false g3]
 simp -implicitDefEqProofs [ng,c1,eq_true g2,eq_true g3]
 all_goals (repeat' split) <;> first | rfl | omega | (simp_all; done) | (simp_all; omega) | skip
theorem Hq (l : List Kp) (hlen : l.length≤9223372036854775807) (hb : bL n4 l) (n : Int) (hn : 0≤n) (hm : n≤9223372036854775807) : aE (ai (ev LI TT) (ak TT) sy) [(0,.row .af 9 (l.map (aY .af))),(1,.int .i64 n),(5,.int .i64 0)] = if cO (fun b n=>av n (bx b)) (l) n < 0 then some (.ret,[(4,.int .i64 (-1))]) else some (.exit 0,[(0,.row .af 9 (l.map (aY .af))),(1,.int .i64 (cO (fun b n=>av n (bx b)) (l) n)),(5,.int .i64 (l).length),(15,.bool false)]):=by
 refine lV (f:=ai (ev LI TT) (ak TT) sy) (l) (fun i n=>[(0,.row .af 9 (l.map (aY .af))),(1,.int .i64 n),(5,.int .i64 i)]) (fun b n=>av n (bx b)) _ (fun n=>[(0,.row .af 9 (l.map (aY .af))),(1,.int .i64 n),(5,.int .i64 (l).length),(15,.bool false)]) n hn hm (fun b n=>l7 _ n) (fun i b n hi hl hn hm=>?_) (fun n=>?_)
 ·have hw:=aL i (by first | omega | (simp at hl; omega))
  obtain ⟨_,rfl⟩:=List.getElem?_eq_some_iff.1 hi
  have h2:=Jq  l[i] n (hb.2 _ (List.getElem_mem hl)) hn hm
  obtain ⟨m,e1⟩ : ∃ m,m = av n (bx l[i]):=⟨_,rfl⟩
  rw [← e1] at h2 ⊢
  try simp at h2
  simp -implicitDefEqProofs [sy,A9,hl,hw,h2]
 ·simp -implicitDefEqProofs [sy,A9]
theorem Jr (l : List Kp) (n : Int) (hb : bL n4 l) (hn : 0≤n) (hm : n≤9223372036854775807) : ev LI TT 67 [.row .af 9 (l.map (aY .af)),.int .i64 n] = some (.int .i64 (av n (wL bx l)),[.dead,.dead]):=by
 rw [ay (b:=o6) (rs:=[.t 4]) (n:=2) rfl rfl]
 have hl:=hb.1
 have hw : wL bx l = l.length + (l.map bx).sum:=rfl
 have ht:=aU n (wL bx l)
 obtain ⟨m,e1⟩ : ∃ m,m = n - (l.length : Int):=⟨_,rfl⟩
 have h2 : IntKind.i64.wrap (n - (l.length : Int)) = m:=by rw [e1]; exact ct (by omega) (by omega)
 by_cases h : m < 0
 ·have ef : av n (wL bx l) = -1:=by omega
  simp -implicitDefEqProofs [o6,h2,h,ef]
 have h3:=Hq  l hb.1 hb m (by omega) (by omega)
 rw [kM _ _ _ (by omega)] at h3
 have hs:=aU m (l.map bx).sum
 obtain ⟨q,e2⟩ : ∃ q,q = av m (l.map bx).sum:=⟨_,rfl⟩
 rw [← e2] at h3 hs
 try simp at h3
 by_cases h4 : q < 0
 ·have ef : av n (wL bx l) = -1:=by omega
  simp only [h4,if_true] at h3
  simp -implicitDefEqProofs [o6,h2,h,h3,ef]
 have ef : av n (wL bx l) = q:=by omega
 simp only [h4,if_false] at h3
 simp -implicitDefEqProofs [o6,h2,h,h3,ef]
 all_goals (repeat' split) <;> first | rfl | omega | (simp_all; done) | (simp_all; omega) | skip
theorem Hz (l : List Kp) (hlen : l.length≤1048576) (hb : wL bx l≤1048576) : aE (ai (ev LI TT) (ak TT) sJ) [(0,.row .af 9 (l.map (aY .af))),(3,.row .own 9 (cC (l.map (aY .own)) 0 [.str ⟨#[]⟩,.row .own 1 [],.row .own 1 [],.int .i64 0,.row .own 2 [],.str ⟨#[]⟩,.int .i64 0,.int .i64 0,.int .i64 0])),(4,.int .i64 0),(6,.int .i64 l.length)] = some (.exit 0,[(0,.row .af 9 (l.map (aY .af))),(3,.row .own 9 (l.map (aY .own))),(4,.int .i64 (l).length),(6,.int .i64 l.length),(11,.bool false)]):=by
 refine iX (f:=ai (ev LI TT) (ak TT) sJ) (l) (fun i=>[(0,.row .af 9 (l.map (aY .af))),(3,.row .own 9 (cC (l.map (aY .own)) i [.str ⟨#[]⟩,.row .own 1 [],.row .own 1 [],.int .i64 0,.row .own 2 [],.str ⟨#[]⟩,.int .i64 0,.int .i64 0,.int .i64 0])),(4,.int .i64 i),(6,.int .i64 l.length)]) _ (fun i b hi hl=>?_) ?_
 ·have hw:=aL i (by first | omega | (simp at hl; omega))
  obtain ⟨_,rfl⟩:=List.getElem?_eq_some_iff.1 hi
  have h:=JH  l[i] (Nat.le_trans (dF (List.getElem_mem hl)) hb)
  try simp at h
  simp -implicitDefEqProofs [sJ,Bh,hl,hw,h]
  first | done | (rw [eH _ _ _ _ (by simpa using hl) (by simp)]; done) | (simp only [kD]; rw [eH _ _ _ _ (by simpa using hl) (by simp)])
 ·simp -implicitDefEqProofs [sJ,Bh]
theorem JI (l : List Kp) (hb : wL bx l≤1048576) : ev LI TT 73 [.row .af 9 (l.map (aY .af))] = some (.row .own 9 (l.map (aY .own)),[.dead]):=by
 rw [ay (b:=wI) (rs:=[.t 2]) (n:=1) rfl rfl]
 have hlen:=bt (w:=bx) l
 have h:=Hz  l (by omega) hb
 try simp at h
 simp -implicitDefEqProofs [wI,h,(by omega : (l.length : Int) * 136≤140737488355328)]
 all_goals (repeat' split) <;> first | rfl | omega | (simp_all; done) | (simp_all; omega) | skip
theorem Hf (ps : List (Kp×Kp)) (hb : ps.length≤9223372036854775807) (cJ : ∀ x∈ps,bx x.1≤1073741824) : aE (ai (ev LI TT) (ak TT) r8) [(0,.row .af 9 (ps.map (fun x : Kp×Kp=>(aY .af) x.1))),(1,.row .af 9 (ps.map (fun x : Kp×Kp=>(aY .af) x.2))),(5,.int .i64 0)] = if aF bE (ps) = true then some (.exit 0,[(0,.row .af 9 (ps.map (fun x : Kp×Kp=>(aY .af) x.1))),(1,.row .af 9 (ps.map (fun x : Kp×Kp=>(aY .af) x.2))),(5,.int .i64 ps.length),(14,.bool false)]) else some (.ret,[(4,.bool false)]):=by
 refine cj (f:=ai (ev LI TT) (ak TT) r8) (ps) (fun i=>[(0,.row .af 9 (ps.map (fun x : Kp×Kp=>(aY .af) x.1))),(1,.row .af 9 (ps.map (fun x : Kp×Kp=>(aY .af) x.2))),(5,.int .i64 i)]) bE _ _ (fun i b hi hl=>?_) ?_
 ·have hw:=aL i (by first | omega | (simp at hl; omega))
  obtain ⟨_,rfl⟩:=List.getElem?_eq_some_iff.1 hi
  have h:=I9  (ps[i]).1 (ps[i]).2 (cJ _ (List.getElem_mem hl)); try simp at h
  simp -implicitDefEqProofs [r8,AZ,hl,hw,bE,h]
 ·simp -implicitDefEqProofs [r8,AZ]
theorem Ja (a b : List Kp) (hb : wL bx a≤1073741824) : ev LI TT 79 [.row .af 9 (a.map (aY .af)),.row .af 9 (b.map (aY .af))] = some (.bool (decide (a = b)),[.dead,.dead]):=by
 rw [ay (b:=wk) (rs:=[.t 4]) (n:=2) rfl rfl]
 simp -implicitDefEqProofs [wk]
 have hlen:=bt (w:=bx) a
 by_cases h : a.length = b.length
 ·obtain ⟨ps,rfl,rfl⟩:=iD h
  have h1:=Hf  ps (by simp at hlen; omega) (fun x hx=>Nat.le_trans (dF (List.mem_map_of_mem hx)) hb)
  have h2:=gU ps
  simp at h1
  rw [← h2]
  cases h3 : aF bE ps <;> rw [h3] at h1 <;> simp [h1,Function.comp_def]
 ·have : ¬ a = b:=fun e=>h (by rw [e])
  simp [this]
  omega
theorem Ji (a : Bn) (n : Int) (hb : mw a) (hn : 0≤n) (hm : n≤9223372036854775807) : ev LI TT 33 [.agg (bQ a),.int .i64 n] = some (.int .i64 (av n (bl a)),[.dead,.dead]):=by
 rw [ay (b:=oV) (rs:=[.t 4]) (n:=2) rfl rfl]
 have hw : bl a = a.a.length + a.b.length:=rfl
 have ht:=aU n (bl a)
 have mL : a.a.length≤9223372036854775807:=hb.E8
 obtain ⟨m1,e1⟩ : ∃ m,m = n - (a.a.length : Int):=⟨_,rfl⟩
 have c1 : IntKind.i64.wrap (n - (a.a.length : Int)) = m1:=by rw [e1]; exact ct (by omega) (by omega)
 by_cases h1 : m1 < 0
 ·have ef : av n (bl a) = -1:=by omega
  simp -implicitDefEqProofs [oV,c1,h1,ef]
 have iO : a.b.length≤9223372036854775807:=hb.OV
 obtain ⟨m2,e2⟩ : ∃ m,m = m1 - (a.b.length : Int):=⟨_,rfl⟩
 have c2 : IntKind.i64.wrap (m1 - (a.b.length : Int)) = m2:=by rw [e2]; exact ct (by omega) (by omega)
 by_cases h2 : m2 < 0
 ·have ef : av n (bl a) = -1:=by omega
  simp -implicitDefEqProofs [oV,c1,h1,c2,h2,ef]
 have ef : av n (bl a) = m2:=by omega
 simp -implicitDefEqProofs [oV,c1,h1,c2,h2,ef]
 all_goals (repeat' split) <;> first | rfl | omega | (simp_all; done) | (simp_all; omega) | skip
theorem Jz (a : Bn) (hb : bl a≤1048576) : ev LI TT 35 [.agg (bQ a)] = some (.agg (bQ a),[.dead]):=by
 rw [ay (b:=wA) (rs:=[.c 2 4 true 83]) (n:=1) rfl rfl]
 have hw : bl a = a.a.length + a.b.length:=rfl
 simp -implicitDefEqProofs [wA,hw]
 all_goals (repeat' split) <;> first | rfl | omega | (simp_all; done) | (simp_all; omega) | skip
theorem I1 (a b : Bn) (hb : bl a≤1073741824) : ev LI TT 170 [.agg (bQ a),.agg (bQ b)] = some (.bool (decide (a = b)),[.dead,.dead]):=by
 rw [ay (b:=lQ) (rs:=[.t 4]) (n:=2) rfl rfl]
 have hw : bl a = a.a.length + a.b.length:=rfl
 rw [KG]
 by_cases g1 : a.kind = b.kind
 rotate_left
 ·simp -implicitDefEqProofs [lQ,eq_false g1]
 by_cases g2 : a.a = b.a
 rotate_left
 ·simp -implicitDefEqProofs [lQ,eq_true g1,eq_false g2]
 by_cases g3 : a.b = b.b
 rotate_left
 ·simp -implicitDefEqProofs [lQ,eq_true g1,eq_true g2,eq_false g3]
 by_cases g4 : a.t = b.t
 rotate_left
 ·simp -implicitDefEqProofs [lQ,eq_true g1,eq_true g2,eq_true g3,eq_false g4]
 simp -implicitDefEqProofs [lQ,eq_true g1,eq_true g2,eq_true g3,eq_true g4]
 all_goals (repeat' split) <;> first | rfl | omega | (simp_all; done) | (simp_all; omega) | skip
theorem Hl (l : List Bn) (hlen : l.length≤9223372036854775807) (hb : bL mw l) (n : Int) (hn : 0≤n) (hm : n≤9223372036854775807) : aE (ai (ev LI TT) (ak TT) sn) [(0,.row .af 4 (l.map (bQ))),(1,.int .i64 n),(5,.int .i64 0)] = if cO (fun b n=>av n (bl b)) (l) n < 0 then some (.ret,[(4,.int .i64 (-1))]) else some (.exit 0,[(0,.row .af 4 (l.map (bQ))),(1,.int .i64 (cO (fun b n=>av n (bl b)) (l) n)),(5,.int .i64 (l).length),(15,.bool false)]):=by
 refine lV (f:=ai (ev LI TT) (ak TT) sn) (l) (fun i n=>[(0,.row .af 4 (l.map (bQ))),(1,.int .i64 n),(5,.int .i64 i)]) (fun b n=>av n (bl b)) _ (fun n=>[(0,.row .af 4 (l.map (bQ))),(1,.int .i64 n),(5,.int .i64 (l).length),(15,.bool false)]) n hn hm (fun b n=>l7 _ n) (fun i b n hi hl hn hm=>?_) (fun n=>?_)
 ·have hw:=aL i (by first | omega | (simp at hl; omega))
  obtain ⟨_,rfl⟩:=List.getElem?_eq_some_iff.1 hi
  have h2:=Ji  l[i] n (hb.2 _ (List.getElem_mem hl)) hn hm
  obtain ⟨m,e1⟩ : ∃ m,m = av n (bl l[i]):=⟨_,rfl⟩
  rw [← e1] at h2 ⊢
  try simp at h2
  simp -implicitDefEqProofs [sn,A6,hl,hw,h2]
 ·simp -implicitDefEqProofs [sn,A6]
theorem Jj (l : List Bn) (n : Int) (hb : bL mw l) (hn : 0≤n) (hm : n≤9223372036854775807) : ev LI TT 68 [.row .af 4 (l.map (bQ)),.int .i64 n] = some (.int .i64 (av n (wL bl l)),[.dead,.dead]):=by
 rw [ay (b:=oU) (rs:=[.t 4]) (n:=2) rfl rfl]
 have hl:=hb.1
 have hw : wL bl l = l.length + (l.map bl).sum:=rfl
 have ht:=aU n (wL bl l)
 obtain ⟨m,e1⟩ : ∃ m,m = n - (l.length : Int):=⟨_,rfl⟩
 have h2 : IntKind.i64.wrap (n - (l.length : Int)) = m:=by rw [e1]; exact ct (by omega) (by omega)
 by_cases h : m < 0
 ·have ef : av n (wL bl l) = -1:=by omega
  simp -implicitDefEqProofs [oU,h2,h,ef]
 have h3:=Hl  l hb.1 hb m (by omega) (by omega)
 rw [kM _ _ _ (by omega)] at h3
 have hs:=aU m (l.map bl).sum
 obtain ⟨q,e2⟩ : ∃ q,q = av m (l.map bl).sum:=⟨_,rfl⟩
 rw [← e2] at h3 hs
 try simp at h3
 by_cases h4 : q < 0
 ·have ef : av n (wL bl l) = -1:=by omega
  simp only [h4,if_true] at h3
  simp -implicitDefEqProofs [oU,h2,h,h3,ef]
 have ef : av n (wL bl l) = q:=by omega
 simp only [h4,if_false] at h3
 simp -implicitDefEqProofs [oU,h2,h,h3,ef]
 all_goals (repeat' split) <;> first | rfl | omega | (simp_all; done) | (simp_all; omega) | skip
theorem Hv (l : List Bn) (hlen : l.length≤1048576) (hb : wL bl l≤1048576) : aE (ai (ev LI TT) (ak TT) sF) [(0,.row .af 4 (l.map bQ)),(3,.row .own 4 (cC (l.map bQ) 0 [.int .i64 0,.str ⟨#[]⟩,.str ⟨#[]⟩,.int .i64 0])),(4,.int .i64 0),(6,.int .i64 l.length)] = some (.exit 0,[(0,.row .af 4 (l.map bQ)),(3,.row .own 4 (l.map bQ)),(4,.int .i64 (l).length),(6,.int .i64 l.length),(11,.bool false)]):=by
 refine iX (f:=ai (ev LI TT) (ak TT) sF) (l) (fun i=>[(0,.row .af 4 (l.map bQ)),(3,.row .own 4 (cC (l.map bQ) i [.int .i64 0,.str ⟨#[]⟩,.str ⟨#[]⟩,.int .i64 0])),(4,.int .i64 i),(6,.int .i64 l.length)]) _ (fun i b hi hl=>?_) ?_
 ·have hw:=aL i (by first | omega | (simp at hl; omega))
  obtain ⟨_,rfl⟩:=List.getElem?_eq_some_iff.1 hi
  have h:=Jz  l[i] (Nat.le_trans (dF (List.getElem_mem hl)) hb)
  try simp at h
  simp -implicitDefEqProofs [sF,Bd,hl,hw,h]
  first | done | (rw [eH _ _ _ _ (by simpa using hl) (by simp)]; done) | (simp only [kD]; rw [eH _ _ _ _ (by simpa using hl) (by simp)])
 ·simp -implicitDefEqProofs [sF,Bd]
theorem JA (l : List Bn) (hb : wL bl l≤1048576) : ev LI TT 74 [.row .af 4 (l.map bQ)] = some (.row .own 4 (l.map bQ),[.dead]):=by
 rw [ay (b:=wz) (rs:=[.t 2]) (n:=1) rfl rfl]
 have hlen:=bt (w:=bl) l
 have h:=Hv  l (by omega) hb
 try simp at h
 simp -implicitDefEqProofs [wz,h,(by omega : (l.length : Int) * 48≤140737488355328)]
 all_goals (repeat' split) <;> first | rfl | omega | (simp_all; done) | (simp_all; omega) | skip
theorem G7 (ps : List (Bn×Bn)) (hb : ps.length≤9223372036854775807) (cJ : ∀ x∈ps,bl x.1≤1073741824) : aE (ai (ev LI TT) (ak TT) rW) [(0,.row .af 4 (ps.map (fun x : Bn×Bn=>bQ x.1))),(1,.row .af 4 (ps.map (fun x : Bn×Bn=>bQ x.2))),(5,.int .i64 0)] = if aF bE (ps) = true then some (.exit 0,[(0,.row .af 4 (ps.map (fun x : Bn×Bn=>bQ x.1))),(1,.row .af 4 (ps.map (fun x : Bn×Bn=>bQ x.2))),(5,.int .i64 ps.length),(14,.bool false)]) else some (.ret,[(4,.bool false)]):=by
 refine cj (f:=ai (ev LI TT) (ak TT) rW) (ps) (fun i=>[(0,.row .af 4 (ps.map (fun x : Bn×Bn=>bQ x.1))),(1,.row .af 4 (ps.map (fun x : Bn×Bn=>bQ x.2))),(5,.int .i64 i)]) bE _ _ (fun i b hi hl=>?_) ?_
 ·have hw:=aL i (by first | omega | (simp at hl; omega))
  obtain ⟨_,rfl⟩:=List.getElem?_eq_some_iff.1 hi
  have h:=I1  (ps[i]).1 (ps[i]).2 (cJ _ (List.getElem_mem hl)); try simp at h
  simp -implicitDefEqProofs [rW,AU,hl,hw,bE,h]
 ·simp -implicitDefEqProofs [rW,AU]
theorem I2 (a b : List Bn) (hb : wL bl a≤1073741824) : ev LI TT 80 [.row .af 4 (a.map bQ),.row .af 4 (b.map bQ)] = some (.bool (decide (a = b)),[.dead,.dead]):=by
 rw [ay (b:=v8) (rs:=[.t 4]) (n:=2) rfl rfl]
 simp -implicitDefEqProofs [v8]
 have hlen:=bt (w:=bl) a
 by_cases h : a.length = b.length
 ·obtain ⟨ps,rfl,rfl⟩:=iD h
  have h1:=G7  ps (by simp at hlen; omega) (fun x hx=>Nat.le_trans (dF (List.mem_map_of_mem hx)) hb)
  have h2:=gU ps
  simp at h1
  rw [← h2]
  cases h3 : aF bE ps <;> rw [h3] at h1 <;> simp [h1,Function.comp_def]
 ·have : ¬ a = b:=fun e=>h (by rw [e])
  simp [this]
  omega
theorem Jw (a : Sh) (n : Int) (hb : yp a) (hn : 0≤n) (hm : n≤9223372036854775807) : ev LI TT 18 [.agg ((bX .af) a),.int .i64 n] = some (.int .i64 (av n (b8 a)),[.dead,.dead]):=by
 rw [ay (b:=nr) (rs:=[.t 4]) (n:=2) rfl rfl]
 have hw : b8 a = cP a.bz + wL bx a.aC + wL bl a.aX:=rfl
 have ht:=aU n (b8 a)
 have c1:=Jl  a.bz n hb.OY (by omega) (by omega)
 have s1:=aU n (cP a.bz)
 obtain ⟨m1,e1⟩ : ∃ m,m = av n (cP a.bz):=⟨_,rfl⟩
 rw [← e1] at c1 s1
 try simp at c1
 by_cases h1 : m1 < 0
 ·have ef : av n (b8 a) = -1:=by omega
  simp -implicitDefEqProofs [nr,c1,h1,ef]
 have c2:=Jr  a.aC m1 hb.O2 (by omega) (by omega)
 have s2:=aU m1 (wL bx a.aC)
 obtain ⟨m2,e2⟩ : ∃ m,m = av m1 (wL bx a.aC):=⟨_,rfl⟩
 rw [← e2] at c2 s2
 try simp at c2
 by_cases h2 : m2 < 0
 ·have ef : av n (b8 a) = -1:=by omega
  simp -implicitDefEqProofs [nr,c1,h1,c2,h2,ef]
 have c3:=Jj  a.aX m2 hb.E9 (by omega) (by omega)
 have s3:=aU m2 (wL bl a.aX)
 obtain ⟨m3,e3⟩ : ∃ m,m = av m2 (wL bl a.aX):=⟨_,rfl⟩
 rw [← e3] at c3 s3
 try simp at c3
 by_cases h3 : m3 < 0
 ·have ef : av n (b8 a) = -1:=by omega
  simp -implicitDefEqProofs [nr,c1,h1,c2,h2,c3,h3,ef]
 have ef : av n (b8 a) = m3:=by omega
 simp -implicitDefEqProofs [nr,c1,h1,c2,h2,c3,h3,ef]
 all_goals (repeat' split) <;> first | rfl | omega | (simp_all; done) | (simp_all; omega) | skip
theorem JN (a : Sh) (hb : b8 a≤1048576) : ev LI TT 21 [.agg ((bX .af) a)] = some (.agg ((bX .own) a),[.dead]):=by
 rw [ay (b:=wU) (rs:=[.c 2 6 true 43]) (n:=1) rfl rfl]
 have hw : b8 a = cP a.bz + wL bx a.aC + wL bl a.aX:=rfl
 have h1:=JC  a.bz (by omega)
 try simp at h1
 have h2:=JI  a.aC (by omega)
 try simp at h2
 have h3:=JA  a.aX (by omega)
 try simp at h3
 simp -implicitDefEqProofs [wU,h1,h2,h3,hw]
 all_goals (repeat' split) <;> first | rfl | omega | (simp_all; done) | (simp_all; omega) | skip
theorem Jf (a b : Sh) (hb : b8 a≤1073741824) : ev LI TT 25 [.agg ((bX .af) a),.agg ((bX .af) b)] = some (.bool (decide (a = b)),[.dead,.dead]):=by
 rw [ay (b:=kA) (rs:=[.t 4]) (n:=2) rfl rfl]
 have hw : b8 a = cP a.bz + wL bx a.aC + wL bl a.aX:=rfl
 rw [KR]
 have c1:=I4  a.bz b.bz (by omega)
 cases g1 : decide (a.bz = b.bz)
 ·rw [g1] at c1
  try simp at c1
  simp -implicitDefEqProofs [kA,c1]
 rw [g1] at c1
 try simp at c1
 have c2:=Ja  a.aC b.aC (by omega)
 cases g2 : decide (a.aC = b.aC)
 ·rw [g2] at c2
  try simp at c2
  simp -implicitDefEqProofs [kA,c1,c2]
 rw [g2] at c2
 try simp at c2
 have c3:=I2  a.aX b.aX (by omega)
 cases g3 : decide (a.aX = b.aX)
 ·rw [g3] at c3
  try simp at c3
  simp -implicitDefEqProofs [kA,c1,c2,c3]
 rw [g3] at c3
 try simp at c3
 by_cases g4 : a.next = b.next
 rotate_left
 ·simp -implicitDefEqProofs [kA,c1,c2,c3,eq_false g4]
 by_cases g5 : a.seq = b.seq
 rotate_left
 ·simp -implicitDefEqProofs [kA,c1,c2,c3,eq_true g4,eq_false g5]
 simp -implicitDefEqProofs [kA,c1,c2,c3,eq_true g4,eq_true g5]
 all_goals (repeat' split) <;> first | rfl | omega | (simp_all; done) | (simp_all; omega) | skip
theorem yI (a : Rq) (n : Int) (hb : n6 a) (hn : 0≤n) (hm : n≤9223372036854775807) : ev LI TT 19 [.agg ((eY .af) a),.int .i64 n] = some (.int .i64 (av n (bA a)),[.dead,.dead]):=by
 rw [ay (b:=nq) (rs:=[.t 4]) (n:=2) rfl rfl]
 have hw : bA a = a.path.length + wL aJ a.fields + a.body.length:=rfl
 have ht:=aU n (bA a)
 have mL : a.path.length≤9223372036854775807:=hb.AN
 obtain ⟨m1,e1⟩ : ∃ m,m = n - (a.path.length : Int):=⟨_,rfl⟩
 have c1 : IntKind.i64.wrap (n - (a.path.length : Int)) = m1:=by rw [e1]; exact ct (by omega) (by omega)
 by_cases h1 : m1 < 0
 ·have ef : av n (bA a) = -1:=by omega
  simp -implicitDefEqProofs [nq,c1,h1,ef]
 have c2:=C3  a.fields m1 hb.AL (by omega) (by omega)
 have s2:=aU m1 (wL aJ a.fields)
 obtain ⟨m2,e2⟩ : ∃ m,m = av m1 (wL aJ a.fields):=⟨_,rfl⟩
 rw [← e2] at c2 s2
 try simp at c2
 by_cases h2 : m2 < 0
 ·have ef : av n (bA a) = -1:=by omega
  simp -implicitDefEqProofs [nq,c1,h1,c2,h2,ef]
 have zZ : a.body.length≤9223372036854775807:=hb.AK
 obtain ⟨m3,e3⟩ : ∃ m,m = m2 - (a.body.length : Int):=⟨_,rfl⟩
 have c3 : IntKind.i64.wrap (m2 - (a.body.length : Int)) = m3:=by rw [e3]; exact ct (by omega) (by omega)
 by_cases h3 : m3 < 0
 ·have ef : av n (bA a) = -1:=by omega
  simp -implicitDefEqProofs [nq,c1,h1,c2,h2,c3,h3,ef]
 have ef : av n (bA a) = m3:=by omega
 simp -implicitDefEqProofs [nq,c1,h1,c2,h2,c3,h3,ef]
 all_goals (repeat' split) <;> first | rfl | omega | (simp_all; done) | (simp_all; omega) | skip
theorem yM (a : Rq) (hb : bA a≤1048576) : ev LI TT 22 [.agg ((eY .af) a)] = some (.agg ((eY .own) a),[.dead]):=by
 rw [ay (b:=wP) (rs:=[.c 2 4 true 66]) (n:=1) rfl rfl]
 have hw : bA a = a.path.length + wL aJ a.fields + a.body.length:=rfl
 have h1:=C4  a.fields (by omega)
 try simp at h1
 simp -implicitDefEqProofs [wP,h1,hw]
 all_goals (repeat' split) <;> first | rfl | omega | (simp_all; done) | (simp_all; omega) | skip
theorem yE (a b : Rq) (hb : bA a≤1073741824) : ev LI TT 26 [.agg ((eY .af) a),.agg ((eY .af) b)] = some (.bool (decide (a = b)),[.dead,.dead]):=by
 rw [ay (b:=lS) (rs:=[.t 4]) (n:=2) rfl rfl]
 have hw : bA a = a.path.length + wL aJ a.fields + a.body.length:=rfl
 rw [KO]
 by_cases g1 : a.method = b.method
 rotate_left
 ·simp -implicitDefEqProofs [lS,eq_false g1]
 by_cases g2 : a.path = b.path
 rotate_left
 ·simp -implicitDefEqProofs [lS,eq_true g1,eq_false g2]
 have c3:=C0  a.fields b.fields (by omega)
 cases g3 : decide (a.fields = b.fields)
 ·rw [g3] at c3
  try simp at c3
  simp -implicitDefEqProofs [lS,eq_true g1,eq_true g2,c3]
 rw [g3] at c3
 try simp at c3
 by_cases g4 : a.body = b.body
 rotate_left
 ·simp -implicitDefEqProofs [lS,eq_true g1,eq_true g2,c3,eq_false g4]
 simp -implicitDefEqProofs [lS,eq_true g1,eq_true g2,c3,eq_true g4]
 all_goals (repeat' split) <;> first | rfl | omega | (simp_all; done) | (simp_all; omega) | skip
theorem Jp (l : List Int) (n : Int) (hb : l.length≤9223372036854775807) (hn : 0≤n) (hm : n≤9223372036854775807) : ev LI TT 228 [.row .af 1 (l.map eI),.int .i64 n] = some (.int .i64 (av n (wL wO l)),[.dead,.dead]):=by
 rw [ay (b:=sx) (rs:=[.t 4]) (n:=2) rfl rfl]
 have hw : wL wO l = l.length:=by simp [wL,wO]; clear hb; induction l <;> simp_all [wO]
 have ht:=aU n (wL wO l)
 obtain ⟨m,e1⟩ : ∃ m,m = n - (l.length : Int):=⟨_,rfl⟩
 have h2 : IntKind.i64.wrap (n - (l.length : Int)) = m:=by rw [e1]; exact ct (by omega) (by omega)
 by_cases h : m < 0
 ·have ef : av n (wL wO l) = -1:=by omega
  simp -implicitDefEqProofs [sx,h2,h,ef]
 have ef : av n (wL wO l) = m:=by omega
 simp -implicitDefEqProofs [sx,h2,h,ef]
 all_goals (repeat' split) <;> first | rfl | omega | (simp_all; done) | (simp_all; omega) | skip
theorem Hy (l : List Int) (hlen : l.length≤1048576) (hb : wL wO l≤1048576) : aE (ai (ev LI TT) (ak TT) sI) [(0,.row .af 1 (l.map eI)),(3,.row .own 1 (cC (l.map eI) 0 [.int .i64 0])),(4,.int .i64 0),(6,.int .i64 l.length)] = some (.exit 0,[(0,.row .af 1 (l.map eI)),(3,.row .own 1 (l.map eI)),(4,.int .i64 (l).length),(6,.int .i64 l.length),(11,.bool false)]):=by
 refine iX (f:=ai (ev LI TT) (ak TT) sI) (l) (fun i=>[(0,.row .af 1 (l.map eI)),(3,.row .own 1 (cC (l.map eI) i [.int .i64 0])),(4,.int .i64 i),(6,.int .i64 l.length)]) _ (fun i b hi hl=>?_) ?_
 ·have hw:=aL i (by first | omega | (simp at hl; omega))
  obtain ⟨_,rfl⟩:=List.getElem?_eq_some_iff.1 hi
  skip
  simp -implicitDefEqProofs [sI,Bg,hl,hw]
  first | done | (rw [eH _ _ _ _ (by simpa using hl) (by simp)]; done) | (simp only [kD]; rw [eH _ _ _ _ (by simpa using hl) (by simp)])
 ·simp -implicitDefEqProofs [sI,Bg]
theorem JG (l : List Int) (hb : wL wO l≤1048576) : ev LI TT 230 [.row .af 1 (l.map eI)] = some (.row .own 1 (l.map eI),[.dead]):=by
 rw [ay (b:=wH) (rs:=[.t 2]) (n:=1) rfl rfl]
 have hlen:=bt (w:=wO) l
 have h:=Hy  l (by omega) hb
 try simp at h
 simp -implicitDefEqProofs [wH,h,(by omega : (l.length : Int) * 8≤140737488355328)]
 all_goals (repeat' split) <;> first | rfl | omega | (simp_all; done) | (simp_all; omega) | skip
theorem He (ps : List (Int×Int)) (hb : ps.length≤9223372036854775807) (cJ : ∀ x∈ps,wO x.1≤1073741824) : aE (ai (ev LI TT) (ak TT) rZ) [(0,.row .af 1 (ps.map (fun x : Int×Int=>eI x.1))),(1,.row .af 1 (ps.map (fun x : Int×Int=>eI x.2))),(5,.int .i64 0)] = if aF bE (ps) = true then some (.exit 0,[(0,.row .af 1 (ps.map (fun x : Int×Int=>eI x.1))),(1,.row .af 1 (ps.map (fun x : Int×Int=>eI x.2))),(5,.int .i64 ps.length),(14,.bool false)]) else some (.ret,[(4,.bool false)]):=by
 refine cj (f:=ai (ev LI TT) (ak TT) rZ) (ps) (fun i=>[(0,.row .af 1 (ps.map (fun x : Int×Int=>eI x.1))),(1,.row .af 1 (ps.map (fun x : Int×Int=>eI x.2))),(5,.int .i64 i)]) bE _ _ (fun i b hi hl=>?_) ?_
 ·have hw:=aL i (by first | omega | (simp at hl; omega))
  obtain ⟨_,rfl⟩:=List.getElem?_eq_some_iff.1 hi
  simp -implicitDefEqProofs [rZ,AY,hl,hw,bE]
  first | done | (split <;> simp_all)
 ·simp -implicitDefEqProofs [rZ,AY]
theorem I8 (a b : List Int) (hb : wL wO a≤1073741824) : ev LI TT 235 [.row .af 1 (a.map eI),.row .af 1 (b.map eI)] = some (.bool (decide (a = b)),[.dead,.dead]):=by
 rw [ay (b:=wj) (rs:=[.t 4]) (n:=2) rfl rfl]
 simp -implicitDefEqProofs [wj]
 have hlen:=bt (w:=wO) a
 by_cases h : a.length = b.length
 ·obtain ⟨ps,rfl,rfl⟩:=iD h
  have h1:=He  ps (by simp at hlen; omega) (fun x hx=>Nat.le_trans (dF (List.mem_map_of_mem hx)) hb)
  have h2:=gU ps
  simp at h1
  rw [← h2]
  cases h3 : aF bE ps <;> rw [h3] at h1 <;> simp [h1,Function.comp_def]
 ·have : ¬ a = b:=fun e=>h (by rw [e])
  simp [this]
  omega
theorem Jn (a : Fl) (n : Int) (hb : nZ a) (hn : 0≤n) (hm : n≤9223372036854775807) : ev LI TT 134 [.agg ((aP .af) a),.int .i64 n] = some (.int .i64 (av n (bg a)),[.dead,.dead]):=by
 rw [ay (b:=nj) (rs:=[.t 4]) (n:=2) rfl rfl]
 have hw : bg a = bA a.q + wL wO a.who + bT a.old:=rfl
 have ht:=aU n (bg a)
 have c1:=yI  a.q n hb.oN (by omega) (by omega)
 have s1:=aU n (bA a.q)
 obtain ⟨m1,e1⟩ : ∃ m,m = av n (bA a.q):=⟨_,rfl⟩
 rw [← e1] at c1 s1
 try simp at c1
 by_cases h1 : m1 < 0
 ·have ef : av n (bg a) = -1:=by omega
  simp -implicitDefEqProofs [nj,c1,h1,ef]
 have c2:=Jp  a.who m1 hb.Pc.1 (by omega) (by omega)
 have s2:=aU m1 (wL wO a.who)
 obtain ⟨m2,e2⟩ : ∃ m,m = av m1 (wL wO a.who):=⟨_,rfl⟩
 rw [← e2] at c2 s2
 try simp at c2
 by_cases h2 : m2 < 0
 ·have ef : av n (bg a) = -1:=by omega
  simp -implicitDefEqProofs [nj,c1,h1,c2,h2,ef]
 have c3:=yH  a.old m2 hb.O3 (by omega) (by omega)
 have s3:=aU m2 (bT a.old)
 obtain ⟨m3,e3⟩ : ∃ m,m = av m2 (bT a.old):=⟨_,rfl⟩
 rw [← e3] at c3 s3
 try simp at c3
 by_cases h3 : m3 < 0
 ·have ef : av n (bg a) = -1:=by omega
  simp -implicitDefEqProofs [nj,c1,h1,c2,h2,c3,h3,ef]
 have ef : av n (bg a) = m3:=by omega
 simp -implicitDefEqProofs [nj,c1,h1,c2,h2,c3,h3,ef]
 all_goals (repeat' split) <;> first | rfl | omega | (simp_all; done) | (simp_all; omega) | skip
theorem JE (a : Fl) (hb : bg a≤1048576) : ev LI TT 140 [.agg ((aP .af) a)] = some (.agg ((aP .own) a),[.dead]):=by
 rw [ay (b:=wG) (rs:=[.c 2 13 true 184]) (n:=1) rfl rfl]
 have hw : bg a = bA a.q + wL wO a.who + bT a.old:=rfl
 have h1:=yM  a.q (by omega)
 try simp at h1
 have h2:=JG  a.who (by omega)
 try simp at h2
 have h3:=yL  a.old (by omega)
 try simp at h3
 simp -implicitDefEqProofs [wG,h1,h2,h3,hw]
 all_goals (repeat' split) <;> first | rfl | omega | (simp_all; done) | (simp_all; omega) | skip
theorem I6 (a b : Fl) (hb : bg a≤1073741824) : ev LI TT 146 [.agg ((aP .af) a),.agg ((aP .af) b)] = some (.bool (decide (a = b)),[.dead,.dead]):=by
 rw [ay (b:=lR) (rs:=[.t 4]) (n:=2) rfl rfl]
 have hw : bg a = bA a.q + wL wO a.who + bT a.old:=rfl
 rw [KJ]
 have c1:=yE  a.q b.q (by omega)
 cases g1 : decide (a.q = b.q)
 ·rw [g1] at c1
  try simp at c1
  simp -implicitDefEqProofs [lR,c1]
 rw [g1] at c1
 try simp at c1
 have c2:=I8  a.who b.who (by omega)
 cases g2 : decide (a.who = b.who)
 ·rw [g2] at c2
  try simp at c2
  simp -implicitDefEqProofs [lR,c1,c2]
 rw [g2] at c2
 try simp at c2
 have c3:=yC  a.old b.old (by omega)
 cases g3 : decide (a.old = b.old)
 ·rw [g3] at c3
  try simp at c3
  simp -implicitDefEqProofs [lR,c1,c2,c3]
 rw [g3] at c3
 try simp at c3
 by_cases g4 : a.ju = b.ju
 rotate_left
 ·simp -implicitDefEqProofs [lR,c1,c2,c3,eq_false g4]
 simp -implicitDefEqProofs [lR,c1,c2,c3,eq_true g4]
 all_goals (repeat' split) <;> first | rfl | omega | (simp_all; done) | (simp_all; omega) | skip
theorem Hp (l : List Fl) (hlen : l.length≤9223372036854775807) (hb : bL nZ l) (n : Int) (hn : 0≤n) (hm : n≤9223372036854775807) : aE (ai (ev LI TT) (ak TT) sw) [(0,.row .af 13 (l.map (aP .af))),(1,.int .i64 n),(5,.int .i64 0)] = if cO (fun b n=>av n (bg b)) (l) n < 0 then some (.ret,[(4,.int .i64 (-1))]) else some (.exit 0,[(0,.row .af 13 (l.map (aP .af))),(1,.int .i64 (cO (fun b n=>av n (bg b)) (l) n)),(5,.int .i64 (l).length),(15,.bool false)]):=by
 refine lV (f:=ai (ev LI TT) (ak TT) sw) (l) (fun i n=>[(0,.row .af 13 (l.map (aP .af))),(1,.int .i64 n),(5,.int .i64 i)]) (fun b n=>av n (bg b)) _ (fun n=>[(0,.row .af 13 (l.map (aP .af))),(1,.int .i64 n),(5,.int .i64 (l).length),(15,.bool false)]) n hn hm (fun b n=>l7 _ n) (fun i b n hi hl hn hm=>?_) (fun n=>?_)
 ·have hw:=aL i (by first | omega | (simp at hl; omega))
  obtain ⟨_,rfl⟩:=List.getElem?_eq_some_iff.1 hi
  have h2:=Jn  l[i] n (hb.2 _ (List.getElem_mem hl)) hn hm
  obtain ⟨m,e1⟩ : ∃ m,m = av n (bg l[i]):=⟨_,rfl⟩
  rw [← e1] at h2 ⊢
  try simp at h2
  simp -implicitDefEqProofs [sw,A8,hl,hw,h2]
 ·simp -implicitDefEqProofs [sw,A8]
theorem Jo (l : List Fl) (n : Int) (hb : bL nZ l) (hn : 0≤n) (hm : n≤9223372036854775807) : ev LI TT 50 [.row .af 13 (l.map (aP .af)),.int .i64 n] = some (.int .i64 (av n (wL bg l)),[.dead,.dead]):=by
 rw [ay (b:=oZ) (rs:=[.t 4]) (n:=2) rfl rfl]
 have hl:=hb.1
 have hw : wL bg l = l.length + (l.map bg).sum:=rfl
 have ht:=aU n (wL bg l)
 obtain ⟨m,e1⟩ : ∃ m,m = n - (l.length : Int):=⟨_,rfl⟩
 have h2 : IntKind.i64.wrap (n - (l.length : Int)) = m:=by rw [e1]; exact ct (by omega) (by omega)
 by_cases h : m < 0
 ·have ef : av n (wL bg l) = -1:=by omega
  simp -implicitDefEqProofs [oZ,h2,h,ef]
 have h3:=Hp  l hb.1 hb m (by omega) (by omega)
 rw [kM _ _ _ (by omega)] at h3
 have hs:=aU m (l.map bg).sum
 obtain ⟨q,e2⟩ : ∃ q,q = av m (l.map bg).sum:=⟨_,rfl⟩
 rw [← e2] at h3 hs
 try simp at h3
 by_cases h4 : q < 0
 ·have ef : av n (wL bg l) = -1:=by omega
  simp only [h4,if_true] at h3
  simp -implicitDefEqProofs [oZ,h2,h,h3,ef]
 have ef : av n (wL bg l) = q:=by omega
 simp only [h4,if_false] at h3
 simp -implicitDefEqProofs [oZ,h2,h,h3,ef]
 all_goals (repeat' split) <;> first | rfl | omega | (simp_all; done) | (simp_all; omega) | skip
theorem Hx (l : List Fl) (hlen : l.length≤1048576) (hb : wL bg l≤1048576) : aE (ai (ev LI TT) (ak TT) sH) [(0,.row .af 13 (l.map (aP .af))),(3,.row .own 13 (cC (l.map (aP .own)) 0 [.int .i64 0,.str ⟨#[]⟩,.row .own 2 [],.str ⟨#[]⟩,.row .own 1 [],.str ⟨#[]⟩,.row .own 1 [],.row .own 1 [],.int .i64 0,.row .own 2 [],.str ⟨#[]⟩,.int .i64 0,.bool false])),(4,.int .i64 0),(6,.int .i64 l.length)] = some (.exit 0,[(0,.row .af 13 (l.map (aP .af))),(3,.row .own 13 (l.map (aP .own))),(4,.int .i64 (l).length),(6,.int .i64 l.length),(11,.bool false)]):=by
 refine iX (f:=ai (ev LI TT) (ak TT) sH) (l) (fun i=>[(0,.row .af 13 (l.map (aP .af))),(3,.row .own 13 (cC (l.map (aP .own)) i [.int .i64 0,.str ⟨#[]⟩,.row .own 2 [],.str ⟨#[]⟩,.row .own 1 [],.str ⟨#[]⟩,.row .own 1 [],.row .own 1 [],.int .i64 0,.row .own 2 [],.str ⟨#[]⟩,.int .i64 0,.bool false])),(4,.int .i64 i),(6,.int .i64 l.length)]) _ (fun i b hi hl=>?_) ?_
 ·have hw:=aL i (by first | omega | (simp at hl; omega))
  obtain ⟨_,rfl⟩:=List.getElem?_eq_some_iff.1 hi
  have h:=JE  l[i] (Nat.le_trans (dF (List.getElem_mem hl)) hb)
  try simp at h
  simp -implicitDefEqProofs [sH,Bf,hl,hw,h]
  first | done | (rw [eH _ _ _ _ (by simpa using hl) (by simp)]; done) | (simp only [kD]; rw [eH _ _ _ _ (by simpa using hl) (by simp)])
 ·simp -implicitDefEqProofs [sH,Bf]
theorem JF (l : List Fl) (hb : wL bg l≤1048576) : ev LI TT 57 [.row .af 13 (l.map (aP .af))] = some (.row .own 13 (l.map (aP .own)),[.dead]):=by
 rw [ay (b:=wF) (rs:=[.t 2]) (n:=1) rfl rfl]
 have hlen:=bt (w:=bg) l
 have h:=Hx  l (by omega) hb
 try simp at h
 simp -implicitDefEqProofs [wF,h,(by omega : (l.length : Int) * 216≤140737488355328)]
 all_goals (repeat' split) <;> first | rfl | omega | (simp_all; done) | (simp_all; omega) | skip
theorem G9 (ps : List (Fl×Fl)) (hb : ps.length≤9223372036854775807) (cJ : ∀ x∈ps,bg x.1≤1073741824) : aE (ai (ev LI TT) (ak TT) rY) [(0,.row .af 13 (ps.map (fun x : Fl×Fl=>(aP .af) x.1))),(1,.row .af 13 (ps.map (fun x : Fl×Fl=>(aP .af) x.2))),(5,.int .i64 0)] = if aF bE (ps) = true then some (.exit 0,[(0,.row .af 13 (ps.map (fun x : Fl×Fl=>(aP .af) x.1))),(1,.row .af 13 (ps.map (fun x : Fl×Fl=>(aP .af) x.2))),(5,.int .i64 ps.length),(14,.bool false)]) else some (.ret,[(4,.bool false)]):=by
 refine cj (f:=ai (ev LI TT) (ak TT) rY) (ps) (fun i=>[(0,.row .af 13 (ps.map (fun x : Fl×Fl=>(aP .af) x.1))),(1,.row .af 13 (ps.map (fun x : Fl×Fl=>(aP .af) x.2))),(5,.int .i64 i)]) bE _ _ (fun i b hi hl=>?_) ?_
 ·have hw:=aL i (by first | omega | (simp at hl; omega))
  obtain ⟨_,rfl⟩:=List.getElem?_eq_some_iff.1 hi
  have h:=I6  (ps[i]).1 (ps[i]).2 (cJ _ (List.getElem_mem hl)); try simp at h
  simp -implicitDefEqProofs [rY,AX,hl,hw,bE,h]
 ·simp -implicitDefEqProofs [rY,AX]
theorem I7 (a b : List Fl) (hb : wL bg a≤1073741824) : ev LI TT 62 [.row .af 13 (a.map (aP .af)),.row .af 13 (b.map (aP .af))] = some (.bool (decide (a = b)),[.dead,.dead]):=by
 rw [ay (b:=wh) (rs:=[.t 4]) (n:=2) rfl rfl]
 simp -implicitDefEqProofs [wh]
 have hlen:=bt (w:=bg) a
 by_cases h : a.length = b.length
 ·obtain ⟨ps,rfl,rfl⟩:=iD h
  have h1:=G9  ps (by simp at hlen; omega) (fun x hx=>Nat.le_trans (dF (List.mem_map_of_mem hx)) hb)
  have h2:=gU ps
  simp at h1
  rw [← h2]
  cases h3 : aF bE ps <;> rw [h3] at h1 <;> simp [h1,Function.comp_def]
 ·have : ¬ a = b:=fun e=>h (by rw [e])
  simp [this]
  omega
theorem Ju (a : Se) (n : Int) (hb : n8 a) (hn : 0≤n) (hm : n≤9223372036854775807) : ev LI TT 135 [.agg ((cx .af) a),.int .i64 n] = some (.int .i64 (av n (bZ a)),[.dead,.dead]):=by
 rw [ay (b:=pg) (rs:=[.t 4]) (n:=2) rfl rfl]
 have hw : bZ a = bA a.q + bY a.resp:=rfl
 have ht:=aU n (bZ a)
 have c1:=yI  a.q n hb.oN (by omega) (by omega)
 have s1:=aU n (bA a.q)
 obtain ⟨m1,e1⟩ : ∃ m,m = av n (bA a.q):=⟨_,rfl⟩
 rw [← e1] at c1 s1
 try simp at c1
 by_cases h1 : m1 < 0
 ·have ef : av n (bZ a) = -1:=by omega
  simp -implicitDefEqProofs [pg,c1,h1,ef]
 have c2:=yJ  a.resp m1 hb.oO (by omega) (by omega)
 have s2:=aU m1 (bY a.resp)
 obtain ⟨m2,e2⟩ : ∃ m,m = av m1 (bY a.resp):=⟨_,rfl⟩
 rw [← e2] at c2 s2
 try simp at c2
 by_cases h2 : m2 < 0
 ·have ef : av n (bZ a) = -1:=by omega
  simp -implicitDefEqProofs [pg,c1,h1,c2,h2,ef]
 have ef : av n (bZ a) = m2:=by omega
 simp -implicitDefEqProofs [pg,c1,h1,c2,h2,ef]
 all_goals (repeat' split) <;> first | rfl | omega | (simp_all; done) | (simp_all; omega) | skip
theorem JL (a : Se) (hb : bZ a≤1048576) : ev LI TT 141 [.agg ((cx .af) a)] = some (.agg ((cx .own) a),[.dead]):=by
 rw [ay (b:=wT) (rs:=[.c 2 8 true 188]) (n:=1) rfl rfl]
 have hw : bZ a = bA a.q + bY a.resp:=rfl
 have h1:=yM  a.q (by omega)
 try simp at h1
 have h2:=yN  a.resp (by omega)
 try simp at h2
 simp -implicitDefEqProofs [wT,h1,h2,hw]
 all_goals (repeat' split) <;> first | rfl | omega | (simp_all; done) | (simp_all; omega) | skip
theorem Jd (a b : Se) (hb : bZ a≤1073741824) : ev LI TT 147 [.agg ((cx .af) a),.agg ((cx .af) b)] = some (.bool (decide (a = b)),[.dead,.dead]):=by
 rw [ay (b:=ni) (rs:=[.t 4]) (n:=2) rfl rfl]
 have hw : bZ a = bA a.q + bY a.resp:=rfl
 rw [KQ]
 have c1:=yE  a.q b.q (by omega)
 cases g1 : decide (a.q = b.q)
 ·rw [g1] at c1
  try simp at c1
  simp -implicitDefEqProofs [ni,c1]
 rw [g1] at c1
 try simp at c1
 have c2:=yF  a.resp b.resp (by omega)
 cases g2 : decide (a.resp = b.resp)
 ·rw [g2] at c2
  try simp at c2
  simp -implicitDefEqProofs [ni,c1,c2]
 rw [g2] at c2
 try simp at c2
 by_cases g3 : a.t = b.t
 rotate_left
 ·simp -implicitDefEqProofs [ni,c1,c2,eq_false g3]
 simp -implicitDefEqProofs [ni,c1,c2,eq_true g3]
 all_goals (repeat' split) <;> first | rfl | omega | (simp_all; done) | (simp_all; omega) | skip
theorem Hs (l : List Se) (hlen : l.length≤9223372036854775807) (hb : bL n8 l) (n : Int) (hn : 0≤n) (hm : n≤9223372036854775807) : aE (ai (ev LI TT) (ak TT) sC) [(0,.row .af 8 (l.map (cx .af))),(1,.int .i64 n),(5,.int .i64 0)] = if cO (fun b n=>av n (bZ b)) (l) n < 0 then some (.ret,[(4,.int .i64 (-1))]) else some (.exit 0,[(0,.row .af 8 (l.map (cx .af))),(1,.int .i64 (cO (fun b n=>av n (bZ b)) (l) n)),(5,.int .i64 (l).length),(15,.bool false)]):=by
 refine lV (f:=ai (ev LI TT) (ak TT) sC) (l) (fun i n=>[(0,.row .af 8 (l.map (cx .af))),(1,.int .i64 n),(5,.int .i64 i)]) (fun b n=>av n (bZ b)) _ (fun n=>[(0,.row .af 8 (l.map (cx .af))),(1,.int .i64 n),(5,.int .i64 (l).length),(15,.bool false)]) n hn hm (fun b n=>l7 _ n) (fun i b n hi hl hn hm=>?_) (fun n=>?_)
 ·have hw:=aL i (by first | omega | (simp at hl; omega))
  obtain ⟨_,rfl⟩:=List.getElem?_eq_some_iff.1 hi
  have h2:=Ju  l[i] n (hb.2 _ (List.getElem_mem hl)) hn hm
  obtain ⟨m,e1⟩ : ∃ m,m = av n (bZ l[i]):=⟨_,rfl⟩
  rw [← e1] at h2 ⊢
  try simp at h2
  simp -implicitDefEqProofs [sC,Bb,hl,hw,h2]
 ·simp -implicitDefEqProofs [sC,Bb]
theorem Jv (l : List Se) (n : Int) (hb : bL n8 l) (hn : 0≤n) (hm : n≤9223372036854775807) : ev LI TT 51 [.row .af 8 (l.map (cx .af)),.int .i64 n] = some (.int .i64 (av n (wL bZ l)),[.dead,.dead]):=by
 rw [ay (b:=o9) (rs:=[.t 4]) (n:=2) rfl rfl]
 have hl:=hb.1
 have hw : wL bZ l = l.length + (l.map bZ).sum:=rfl
 have ht:=aU n (wL bZ l)
 obtain ⟨m,e1⟩ : ∃ m,m = n - (l.length : Int):=⟨_,rfl⟩
 have h2 : IntKind.i64.wrap (n - (l.length : Int)) = m:=by rw [e1]; exact ct (by omega) (by omega)
 by_cases h : m < 0
 ·have ef : av n (wL bZ l) = -1:=by omega
  simp -implicitDefEqProofs [o9,h2,h,ef]
 have h3:=Hs  l hb.1 hb m (by omega) (by omega)
 rw [kM _ _ _ (by omega)] at h3
 have hs:=aU m (l.map bZ).sum
 obtain ⟨q,e2⟩ : ∃ q,q = av m (l.map bZ).sum:=⟨_,rfl⟩
 rw [← e2] at h3 hs
 try simp at h3
 by_cases h4 : q < 0
 ·have ef : av n (wL bZ l) = -1:=by omega
  simp only [h4,if_true] at h3
  simp -implicitDefEqProofs [o9,h2,h,h3,ef]
 have ef : av n (wL bZ l) = q:=by omega
 simp only [h4,if_false] at h3
 simp -implicitDefEqProofs [o9,h2,h,h3,ef]
 all_goals (repeat' split) <;> first | rfl | omega | (simp_all; done) | (simp_all; omega) | skip
theorem HB (l : List Se) (hlen : l.length≤1048576) (hb : wL bZ l≤1048576) : aE (ai (ev LI TT) (ak TT) sL) [(0,.row .af 8 (l.map (cx .af))),(3,.row .own 8 (cC (l.map (cx .own)) 0 [.int .i64 0,.str ⟨#[]⟩,.row .own 2 [],.str ⟨#[]⟩,.int .i64 0,.row .own 2 [],.str ⟨#[]⟩,.int .i64 0])),(4,.int .i64 0),(6,.int .i64 l.length)] = some (.exit 0,[(0,.row .af 8 (l.map (cx .af))),(3,.row .own 8 (l.map (cx .own))),(4,.int .i64 (l).length),(6,.int .i64 l.length),(11,.bool false)]):=by
 refine iX (f:=ai (ev LI TT) (ak TT) sL) (l) (fun i=>[(0,.row .af 8 (l.map (cx .af))),(3,.row .own 8 (cC (l.map (cx .own)) i [.int .i64 0,.str ⟨#[]⟩,.row .own 2 [],.str ⟨#[]⟩,.int .i64 0,.row .own 2 [],.str ⟨#[]⟩,.int .i64 0])),(4,.int .i64 i),(6,.int .i64 l.length)]) _ (fun i b hi hl=>?_) ?_
 ·have hw:=aL i (by first | omega | (simp at hl; omega))
  obtain ⟨_,rfl⟩:=List.getElem?_eq_some_iff.1 hi
  have h:=JL  l[i] (Nat.le_trans (dF (List.getElem_mem hl)) hb)
  try simp at h
  simp -implicitDefEqProofs [sL,Bj,hl,hw,h]
  first | done | (rw [eH _ _ _ _ (by simpa using hl) (by simp)]; done) | (simp only [kD]; rw [eH _ _ _ _ (by simpa using hl) (by simp)])
 ·simp -implicitDefEqProofs [sL,Bj]
theorem JM (l : List Se) (hb : wL bZ l≤1048576) : ev LI TT 58 [.row .af 8 (l.map (cx .af))] = some (.row .own 8 (l.map (cx .own)),[.dead]):=by
 rw [ay (b:=wR) (rs:=[.t 2]) (n:=1) rfl rfl]
 have hlen:=bt (w:=bZ) l
 have h:=HB  l (by omega) hb
 try simp at h
 simp -implicitDefEqProofs [wR,h,(by omega : (l.length : Int) * 120≤140737488355328)]
 all_goals (repeat' split) <;> first | rfl | omega | (simp_all; done) | (simp_all; omega) | skip
theorem Hh (ps : List (Se×Se)) (hb : ps.length≤9223372036854775807) (cJ : ∀ x∈ps,bZ x.1≤1073741824) : aE (ai (ev LI TT) (ak TT) sg) [(0,.row .af 8 (ps.map (fun x : Se×Se=>(cx .af) x.1))),(1,.row .af 8 (ps.map (fun x : Se×Se=>(cx .af) x.2))),(5,.int .i64 0)] = if aF bE (ps) = true then some (.exit 0,[(0,.row .af 8 (ps.map (fun x : Se×Se=>(cx .af) x.1))),(1,.row .af 8 (ps.map (fun x : Se×Se=>(cx .af) x.2))),(5,.int .i64 ps.length),(14,.bool false)]) else some (.ret,[(4,.bool false)]):=by
 refine cj (f:=ai (ev LI TT) (ak TT) sg) (ps) (fun i=>[(0,.row .af 8 (ps.map (fun x : Se×Se=>(cx .af) x.1))),(1,.row .af 8 (ps.map (fun x : Se×Se=>(cx .af) x.2))),(5,.int .i64 i)]) bE _ _ (fun i b hi hl=>?_) ?_
 ·have hw:=aL i (by first | omega | (simp at hl; omega))
  obtain ⟨_,rfl⟩:=List.getElem?_eq_some_iff.1 hi
  have h:=Jd  (ps[i]).1 (ps[i]).2 (cJ _ (List.getElem_mem hl)); try simp at h
  simp -implicitDefEqProofs [sg,A1,hl,hw,bE,h]
 ·simp -implicitDefEqProofs [sg,A1]
theorem Je (a b : List Se) (hb : wL bZ a≤1073741824) : ev LI TT 63 [.row .af 8 (a.map (cx .af)),.row .af 8 (b.map (cx .af))] = some (.bool (decide (a = b)),[.dead,.dead]):=by
 rw [ay (b:=wo) (rs:=[.t 4]) (n:=2) rfl rfl]
 simp -implicitDefEqProofs [wo]
 have hlen:=bt (w:=bZ) a
 by_cases h : a.length = b.length
 ·obtain ⟨ps,rfl,rfl⟩:=iD h
  have h1:=Hh  ps (by simp at hlen; omega) (fun x hx=>Nat.le_trans (dF (List.mem_map_of_mem hx)) hb)
  have h2:=gU ps
  simp at h1
  rw [← h2]
  cases h3 : aF bE ps <;> rw [h3] at h1 <;> simp [h1,Function.comp_def]
 ·have : ¬ a = b:=fun e=>h (by rw [e])
  simp [this]
  omega
theorem Js (a : Rp) (n : Int) (hb : n5 a) (hn : 0≤n) (hm : n≤9223372036854775807) : ev LI TT 136 [.agg ((bW .af) a),.int .i64 n] = some (.int .i64 (av n (bU a)),[.dead,.dead]):=by
 rw [ay (b:=nk) (rs:=[.t 4]) (n:=2) rfl rfl]
 have hw : bU a = bA a.q + bY a.resp + bT a.obj:=rfl
 have ht:=aU n (bU a)
 have c1:=yI  a.q n hb.oN (by omega) (by omega)
 have s1:=aU n (bA a.q)
 obtain ⟨m1,e1⟩ : ∃ m,m = av n (bA a.q):=⟨_,rfl⟩
 rw [← e1] at c1 s1
 try simp at c1
 by_cases h1 : m1 < 0
 ·have ef : av n (bU a) = -1:=by omega
  simp -implicitDefEqProofs [nk,c1,h1,ef]
 have c2:=yJ  a.resp m1 hb.oO (by omega) (by omega)
 have s2:=aU m1 (bY a.resp)
 obtain ⟨m2,e2⟩ : ∃ m,m = av m1 (bY a.resp):=⟨_,rfl⟩
 rw [← e2] at c2 s2
 try simp at c2
 by_cases h2 : m2 < 0
 ·have ef : av n (bU a) = -1:=by omega
  simp -implicitDefEqProofs [nk,c1,h1,c2,h2,ef]
 have c3:=yH  a.obj m2 hb.AM (by omega) (by omega)
 have s3:=aU m2 (bT a.obj)
 obtain ⟨m3,e3⟩ : ∃ m,m = av m2 (bT a.obj):=⟨_,rfl⟩
 rw [← e3] at c3 s3
 try simp at c3
 by_cases h3 : m3 < 0
 ·have ef : av n (bU a) = -1:=by omega
  simp -implicitDefEqProofs [nk,c1,h1,c2,h2,c3,h3,ef]
 have ef : av n (bU a) = m3:=by omega
 simp -implicitDefEqProofs [nk,c1,h1,c2,h2,c3,h3,ef]
 all_goals (repeat' split) <;> first | rfl | omega | (simp_all; done) | (simp_all; omega) | skip
theorem JJ (a : Rp) (hb : bU a≤1048576) : ev LI TT 142 [.agg ((bW .af) a)] = some (.agg ((bW .own) a),[.dead]):=by
 rw [ay (b:=wN) (rs:=[.c 2 18 true 104]) (n:=1) rfl rfl]
 have hw : bU a = bA a.q + bY a.resp + bT a.obj:=rfl
 have h1:=yM  a.q (by omega)
 try simp at h1
 have h2:=yN  a.resp (by omega)
 try simp at h2
 have h3:=yL  a.obj (by omega)
 try simp at h3
 simp -implicitDefEqProofs [wN,h1,h2,h3,hw]
 all_goals (repeat' split) <;> first | rfl | omega | (simp_all; done) | (simp_all; omega) | skip
theorem Jb (a b : Rp) (hb : bU a≤1073741824) : ev LI TT 148 [.agg ((bW .af) a),.agg ((bW .af) b)] = some (.bool (decide (a = b)),[.dead,.dead]):=by
 rw [ay (b:=iV) (rs:=[.t 4]) (n:=2) rfl rfl]
 have hw : bU a = bA a.q + bY a.resp + bT a.obj:=rfl
 rw [KN]
 by_cases g1 : a.client = b.client
 rotate_left
 ·simp -implicitDefEqProofs [iV,eq_false g1]
 have c2:=yE  a.q b.q (by omega)
 cases g2 : decide (a.q = b.q)
 ·rw [g2] at c2
  try simp at c2
  simp -implicitDefEqProofs [iV,eq_true g1,c2]
 rw [g2] at c2
 try simp at c2
 have c3:=yF  a.resp b.resp (by omega)
 cases g3 : decide (a.resp = b.resp)
 ·rw [g3] at c3
  try simp at c3
  simp -implicitDefEqProofs [iV,eq_true g1,c2,c3]
 rw [g3] at c3
 try simp at c3
 by_cases g4 : a.kind = b.kind
 rotate_left
 ·simp -implicitDefEqProofs [iV,eq_true g1,c2,c3,eq_false g4]
 by_cases g5 : a.t = b.t
 rotate_left
 ·simp -implicitDefEqProofs [iV,eq_true g1,c2,c3,eq_true g4,eq_false g5]
 have c6:=yC  a.obj b.obj (by omega)
 cases g6 : decide (a.obj = b.obj)
 ·rw [g6] at c6
  try simp at c6
  simp -implicitDefEqProofs [iV,eq_true g1,c2,c3,eq_true g4,eq_true g5,c6]
 rw [g6] at c6
 try simp at c6
 by_cases g7 : a.aX = b.aX
 rotate_left
 ·simp -implicitDefEqProofs [iV,eq_true g1,c2,c3,eq_true g4,eq_true g5,c6,eq_false g7]
 simp -implicitDefEqProofs [iV,eq_true g1,c2,c3,eq_true g4,eq_true g5,c6,eq_true g7]
 all_goals (repeat' split) <;> first | rfl | omega | (simp_all; done) | (simp_all; omega) | skip
theorem Hr (l : List Rp) (hlen : l.length≤9223372036854775807) (hb : bL n5 l) (n : Int) (hn : 0≤n) (hm : n≤9223372036854775807) : aE (ai (ev LI TT) (ak TT) sB) [(0,.row .af 18 (l.map (bW .af))),(1,.int .i64 n),(5,.int .i64 0)] = if cO (fun b n=>av n (bU b)) (l) n < 0 then some (.ret,[(4,.int .i64 (-1))]) else some (.exit 0,[(0,.row .af 18 (l.map (bW .af))),(1,.int .i64 (cO (fun b n=>av n (bU b)) (l) n)),(5,.int .i64 (l).length),(15,.bool false)]):=by
 refine lV (f:=ai (ev LI TT) (ak TT) sB) (l) (fun i n=>[(0,.row .af 18 (l.map (bW .af))),(1,.int .i64 n),(5,.int .i64 i)]) (fun b n=>av n (bU b)) _ (fun n=>[(0,.row .af 18 (l.map (bW .af))),(1,.int .i64 n),(5,.int .i64 (l).length),(15,.bool false)]) n hn hm (fun b n=>l7 _ n) (fun i b n hi hl hn hm=>?_) (fun n=>?_)
 ·have hw:=aL i (by first | omega | (simp at hl; omega))
  obtain ⟨_,rfl⟩:=List.getElem?_eq_some_iff.1 hi
  have h2:=Js  l[i] n (hb.2 _ (List.getElem_mem hl)) hn hm
  obtain ⟨m,e1⟩ : ∃ m,m = av n (bU l[i]):=⟨_,rfl⟩
  rw [← e1] at h2 ⊢
  try simp at h2
  simp -implicitDefEqProofs [sB,Ba,hl,hw,h2]
 ·simp -implicitDefEqProofs [sB,Ba]
theorem Jt (l : List Rp) (n : Int) (hb : bL n5 l) (hn : 0≤n) (hm : n≤9223372036854775807) : ev LI TT 52 [.row .af 18 (l.map (bW .af)),.int .i64 n] = some (.int .i64 (av n (wL bU l)),[.dead,.dead]):=by
 rw [ay (b:=o7) (rs:=[.t 4]) (n:=2) rfl rfl]
 have hl:=hb.1
 have hw : wL bU l = l.length + (l.map bU).sum:=rfl
 have ht:=aU n (wL bU l)
 obtain ⟨m,e1⟩ : ∃ m,m = n - (l.length : Int):=⟨_,rfl⟩
 have h2 : IntKind.i64.wrap (n - (l.length : Int)) = m:=by rw [e1]; exact ct (by omega) (by omega)
 by_cases h : m < 0
 ·have ef : av n (wL bU l) = -1:=by omega
  simp -implicitDefEqProofs [o7,h2,h,ef]
 have h3:=Hr  l hb.1 hb m (by omega) (by omega)
 rw [kM _ _ _ (by omega)] at h3
 have hs:=aU m (l.map bU).sum
 obtain ⟨q,e2⟩ : ∃ q,q = av m (l.map bU).sum:=⟨_,rfl⟩
 rw [← e2] at h3 hs
 try simp at h3
 by_cases h4 : q < 0
 ·have ef : av n (wL bU l) = -1:=by omega
  simp only [h4,if_true] at h3
  simp -implicitDefEqProofs [o7,h2,h,h3,ef]
 have ef : av n (wL bU l) = q:=by omega
 simp only [h4,if_false] at h3
 simp -implicitDefEqProofs [o7,h2,h,h3,ef]
 all_goals (repeat' split) <;> first | rfl | omega | (simp_all; done) | (simp_all; omega) | skip
theorem HA (l : List Rp) (hlen : l.length≤1048576) (hb : wL bU l≤1048576) : aE (ai (ev LI TT) (ak TT) sK) [(0,.row .af 18 (l.map (bW .af))),(3,.row .own 18 (cC (l.map (bW .own)) 0 [.int .i64 0,.int .i64 0,.str ⟨#[]⟩,.row .own 2 [],.str ⟨#[]⟩,.int .i64 0,.row .own 2 [],.str ⟨#[]⟩,.int .i64 0,.int .i64 0,.str ⟨#[]⟩,.row .own 1 [],.row .own 1 [],.int .i64 0,.row .own 2 [],.str ⟨#[]⟩,.int .i64 0,.int .i64 0])),(4,.int .i64 0),(6,.int .i64 l.length)] = some (.exit 0,[(0,.row .af 18 (l.map (bW .af))),(3,.row .own 18 (l.map (bW .own))),(4,.int .i64 (l).length),(6,.int .i64 l.length),(11,.bool false)]):=by
 refine iX (f:=ai (ev LI TT) (ak TT) sK) (l) (fun i=>[(0,.row .af 18 (l.map (bW .af))),(3,.row .own 18 (cC (l.map (bW .own)) i [.int .i64 0,.int .i64 0,.str ⟨#[]⟩,.row .own 2 [],.str ⟨#[]⟩,.int .i64 0,.row .own 2 [],.str ⟨#[]⟩,.int .i64 0,.int .i64 0,.str ⟨#[]⟩,.row .own 1 [],.row .own 1 [],.int .i64 0,.row .own 2 [],.str ⟨#[]⟩,.int .i64 0,.int .i64 0])),(4,.int .i64 i),(6,.int .i64 l.length)]) _ (fun i b hi hl=>?_) ?_
 ·have hw:=aL i (by first | omega | (simp at hl; omega))
  obtain ⟨_,rfl⟩:=List.getElem?_eq_some_iff.1 hi
  have h:=JJ  l[i] (Nat.le_trans (dF (List.getElem_mem hl)) hb)
  try simp at h
  simp -implicitDefEqProofs [sK,Bi,hl,hw,h]
  first | done | (rw [eH _ _ _ _ (by simpa using hl) (by simp)]; done) | (simp only [kD]; rw [eH _ _ _ _ (by simpa using hl) (by simp)])
 ·simp -implicitDefEqProofs [sK,Bi]
theorem JK (l : List Rp) (hb : wL bU l≤1048576) : ev LI TT 59 [.row .af 18 (l.map (bW .af))] = some (.row .own 18 (l.map (bW .own)),[.dead]):=by
 rw [ay (b:=wM) (rs:=[.t 2]) (n:=1) rfl rfl]
 have hlen:=bt (w:=bU) l
 have h:=HA  l (by omega) hb
 try simp at h
 simp -implicitDefEqProofs [wM,h,(by omega : (l.length : Int) * 264≤140737488355328)]
 all_goals (repeat' split) <;> first | rfl | omega | (simp_all; done) | (simp_all; omega) | skip
theorem Hg (ps : List (Rp×Rp)) (hb : ps.length≤9223372036854775807) (cJ : ∀ x∈ps,bU x.1≤1073741824) : aE (ai (ev LI TT) (ak TT) r9) [(0,.row .af 18 (ps.map (fun x : Rp×Rp=>(bW .af) x.1))),(1,.row .af 18 (ps.map (fun x : Rp×Rp=>(bW .af) x.2))),(5,.int .i64 0)] = if aF bE (ps) = true then some (.exit 0,[(0,.row .af 18 (ps.map (fun x : Rp×Rp=>(bW .af) x.1))),(1,.row .af 18 (ps.map (fun x : Rp×Rp=>(bW .af) x.2))),(5,.int .i64 ps.length),(14,.bool false)]) else some (.ret,[(4,.bool false)]):=by
 refine cj (f:=ai (ev LI TT) (ak TT) r9) (ps) (fun i=>[(0,.row .af 18 (ps.map (fun x : Rp×Rp=>(bW .af) x.1))),(1,.row .af 18 (ps.map (fun x : Rp×Rp=>(bW .af) x.2))),(5,.int .i64 i)]) bE _ _ (fun i b hi hl=>?_) ?_
 ·have hw:=aL i (by first | omega | (simp at hl; omega))
  obtain ⟨_,rfl⟩:=List.getElem?_eq_some_iff.1 hi
  have h:=Jb  (ps[i]).1 (ps[i]).2 (cJ _ (List.getElem_mem hl)); try simp at h
  simp -implicitDefEqProofs [r9,A0,hl,hw,bE,h]
 ·simp -implicitDefEqProofs [r9,A0]
theorem Jc (a b : List Rp) (hb : wL bU a≤1073741824) : ev LI TT 64 [.row .af 18 (a.map (bW .af)),.row .af 18 (b.map (bW .af))] = some (.bool (decide (a = b)),[.dead,.dead]):=by
 rw [ay (b:=wm) (rs:=[.t 4]) (n:=2) rfl rfl]
 simp -implicitDefEqProofs [wm]
 have hlen:=bt (w:=bU) a
 by_cases h : a.length = b.length
 ·obtain ⟨ps,rfl,rfl⟩:=iD h
  have h1:=Hg  ps (by simp at hlen; omega) (fun x hx=>Nat.le_trans (dF (List.mem_map_of_mem hx)) hb)
  have h2:=gU ps
  simp at h1
  rw [← h2]
  cases h3 : aF bE ps <;> rw [h3] at h1 <;> simp [h1,Function.comp_def]
 ·have : ¬ a = b:=fun e=>h (by rw [e])
  simp [this]
  omega
theorem Jk (a : Ca) (n : Int) (hb : uF a) (hn : 0≤n) (hm : n≤9223372036854775807) : ev LI TT 11 [.agg ((cg .af) a),.int .i64 n] = some (.int .i64 (av n (cr a)),[.dead,.dead]):=by
 rw [ay (b:=lT) (rs:=[.t 4]) (n:=2) rfl rfl]
 have hw : cr a = b8 a.ck + wL bg a.aH + wL bZ a.seen + wL bU a.sent:=rfl
 have ht:=aU n (cr a)
 have c1:=Jw  a.ck n hb.O8 (by omega) (by omega)
 have s1:=aU n (b8 a.ck)
 obtain ⟨m1,e1⟩ : ∃ m,m = av n (b8 a.ck):=⟨_,rfl⟩
 rw [← e1] at c1 s1
 try simp at c1
 by_cases h1 : m1 < 0
 ·have ef : av n (cr a) = -1:=by omega
  simp -implicitDefEqProofs [lT,c1,h1,ef]
 have c2:=Jo  a.aH m1 hb.OZ (by omega) (by omega)
 have s2:=aU m1 (wL bg a.aH)
 obtain ⟨m2,e2⟩ : ∃ m,m = av m1 (wL bg a.aH):=⟨_,rfl⟩
 rw [← e2] at c2 s2
 try simp at c2
 by_cases h2 : m2 < 0
 ·have ef : av n (cr a) = -1:=by omega
  simp -implicitDefEqProofs [lT,c1,h1,c2,h2,ef]
 have c3:=Jv  a.seen m2 hb.O5 (by omega) (by omega)
 have s3:=aU m2 (wL bZ a.seen)
 obtain ⟨m3,e3⟩ : ∃ m,m = av m2 (wL bZ a.seen):=⟨_,rfl⟩
 rw [← e3] at c3 s3
 try simp at c3
 by_cases h3 : m3 < 0
 ·have ef : av n (cr a) = -1:=by omega
  simp -implicitDefEqProofs [lT,c1,h1,c2,h2,c3,h3,ef]
 have c4:=Jt  a.sent m3 hb.O6 (by omega) (by omega)
 have s4:=aU m3 (wL bU a.sent)
 obtain ⟨m4,e4⟩ : ∃ m,m = av m3 (wL bU a.sent):=⟨_,rfl⟩
 rw [← e4] at c4 s4
 try simp at c4
 by_cases h4 : m4 < 0
 ·have ef : av n (cr a) = -1:=by omega
  simp -implicitDefEqProofs [lT,c1,h1,c2,h2,c3,h3,c4,h4,ef]
 have ef : av n (cr a) = m4:=by omega
 simp -implicitDefEqProofs [lT,c1,h1,c2,h2,c3,h3,c4,h4,ef]
 all_goals (repeat' split) <;> first | rfl | omega | (simp_all; done) | (simp_all; omega) | skip
theorem JB (a : Ca) (hb : cr a≤1048576) : ev LI TT 13 [.agg ((cg .af) a)] = some (.agg ((cg .own) a),[.dead]):=by
 rw [ay (b:=wB) (rs:=[.c 2 10 true 48]) (n:=1) rfl rfl]
 have hw : cr a = b8 a.ck + wL bg a.aH + wL bZ a.seen + wL bU a.sent:=rfl
 have h1:=JN  a.ck (by omega)
 try simp at h1
 have h2:=JF  a.aH (by omega)
 try simp at h2
 have h3:=JM  a.seen (by omega)
 try simp at h3
 have h4:=JK  a.sent (by omega)
 try simp at h4
 simp -implicitDefEqProofs [wB,h1,h2,h3,h4,hw]
 all_goals (repeat' split) <;> first | rfl | omega | (simp_all; done) | (simp_all; omega) | skip
theorem I3 (a b : Ca) (hb : cr a≤1073741824) : ev LI TT 15 [.agg ((cg .af) a),.agg ((cg .af) b)] = some (.bool (decide (a = b)),[.dead,.dead]):=by
 rw [ay (b:=ku) (rs:=[.t 4]) (n:=2) rfl rfl]
 have hw : cr a = b8 a.ck + wL bg a.aH + wL bZ a.seen + wL bU a.sent:=rfl
 rw [KH]
 have c1:=Jf  a.ck b.ck (by omega)
 cases g1 : decide (a.ck = b.ck)
 ·rw [g1] at c1
  try simp at c1
  simp -implicitDefEqProofs [ku,c1]
 rw [g1] at c1
 try simp at c1
 have c2:=I7  a.aH b.aH (by omega)
 cases g2 : decide (a.aH = b.aH)
 ·rw [g2] at c2
  try simp at c2
  simp -implicitDefEqProofs [ku,c1,c2]
 rw [g2] at c2
 try simp at c2
 by_cases g3 : a.now = b.now
 rotate_left
 ·simp -implicitDefEqProofs [ku,c1,c2,eq_false g3]
 have c4:=Je  a.seen b.seen (by omega)
 cases g4 : decide (a.seen = b.seen)
 ·rw [g4] at c4
  try simp at c4
  simp -implicitDefEqProofs [ku,c1,c2,eq_true g3,c4]
 rw [g4] at c4
 try simp at c4
 have c5:=Jc  a.sent b.sent (by omega)
 cases g5 : decide (a.sent = b.sent)
 ·rw [g5] at c5
  try simp at c5
  simp -implicitDefEqProofs [ku,c1,c2,eq_true g3,c4,c5]
 rw [g5] at c5
 try simp at c5
 simp -implicitDefEqProofs [ku,c1,c2,eq_true g3,c4,c5]
 all_goals (repeat' split) <;> first | rfl | omega | (simp_all; done) | (simp_all; omega) | skip
end M
namespace M
open Go
@[simp] theorem UT (x : Int) (lo : Int) (hi : Int) : ev LI TT 137 [.int .i64 x,.int .i64 lo,.int .i64 hi] = some (.bool ((decide (lo≤x∧x≤hi))),[.dead,.dead,.dead]):=by
 rw [ay (b:=xF) (rs:=[.t 6]) (n:=3) rfl rfl]
 simp -implicitDefEqProofs [xF]
 try (by_cases h1 : lo≤x <;> by_cases h2 : x≤hi <;> simp [h1,h2])
@[simp] theorem UP (x : Int) (lo : Int) (hi : Int) : ev LI TT 180 [.int .i64 x,.int .i64 lo,.int .i64 hi] = some (.bool ((decide (lo≤x∧x≤hi))),[.dead,.dead,.dead]):=by
 rw [ay (b:=vQ) (rs:=[.t 6]) (n:=3) rfl rfl]
 simp -implicitDefEqProofs [vQ]
 try (by_cases h1 : lo≤x <;> by_cases h2 : x≤hi <;> simp [h1,h2])
theorem HV (s : ah) (hb : s.length≤9223372036854775807) : aE (ai (ev LI TT) (ak TT) tL) [(0,.str ⟨s.toArray⟩),(3,.int .i64 0)] = if aF nT (s) = true then some (.exit 0,[(0,.str ⟨s.toArray⟩),(3,.int .i64 (s).length),(8,.bool false)]) else some (.ret,[(2,.bool false)]):=by
 refine cj (f:=ai (ev LI TT) (ak TT) tL) (s) (fun i=>[(0,.str ⟨s.toArray⟩),(3,.int .i64 i)]) nT _ _ (fun i b hi hl=>?_) ?_
 ·have hw:=aL i (by first | omega | (simp at hl; omega))
  obtain ⟨_,rfl⟩:=List.getElem?_eq_some_iff.1 hi
  unfold nT
  simp -implicitDefEqProofs [tL,B0,hl,hw]
  all_goals (repeat' split) <;> first | rfl | omega | (simp_all; done) | (simp_all; omega) | skip
 ·simp -implicitDefEqProofs [tL,B0]
theorem yQ (s : ah) (hb : s.length≤9223372036854775807) : ev LI TT 184 [.str ⟨s.toArray⟩] = some (.bool ((ek s)),[.dead]):=by
 rw [ay (b:=xA) (rs:=[.t 2]) (n:=1) rfl rfl]
 unfold ek
 have u1:=HV  s hb
 try simp at u1
 simp -implicitDefEqProofs [xA,u1]
 all_goals (repeat' split) <;> first | rfl | omega | (simp_all; done) | (simp_all; omega) | skip
theorem GW (s : ah) (hb : s.length≤9223372036854775807) : aE (ai (ev LI TT) (ak TT) rL) [(0,.str ⟨s.toArray⟩),(3,.int .i64 0)] = if aF nT (s) = true then some (.exit 0,[(0,.str ⟨s.toArray⟩),(3,.int .i64 (s).length),(7,.bool false)]) else some (.ret,[(2,.bool false)]):=by
 refine cj (f:=ai (ev LI TT) (ak TT) rL) (s) (fun i=>[(0,.str ⟨s.toArray⟩),(3,.int .i64 i)]) nT _ _ (fun i b hi hl=>?_) ?_
 ·have hw:=aL i (by first | omega | (simp at hl; omega))
  obtain ⟨_,rfl⟩:=List.getElem?_eq_some_iff.1 hi
  unfold nT
  simp -implicitDefEqProofs [rL,Aw,hl,hw]
  all_goals (repeat' split) <;> first | rfl | omega | (simp_all; done) | (simp_all; omega) | skip
 ·simp -implicitDefEqProofs [rL,Aw]
theorem yz (s : ah) (hb : s.length≤9223372036854775807) : ev LI TT 260 [.str ⟨s.toArray⟩] = some (.bool ((ek s)),[.dead]):=by
 rw [ay (b:=vJ) (rs:=[.t 2]) (n:=1) rfl rfl]
 unfold ek
 have u1:=GW  s hb
 try simp at u1
 simp -implicitDefEqProofs [vJ,u1]
 all_goals (repeat' split) <;> first | rfl | omega | (simp_all; done) | (simp_all; omega) | skip
theorem GY (s : ah) (lo : UInt8) (hb : s.length≤9223372036854775807) : aE (ai (ev LI TT) (ak TT) rN) [(0,.str ⟨s.toArray⟩),(1,.int .u8 (lo.toNat : Int)),(5,.int .i64 0)] = if aF (fW lo.toNat) (s) = true then some (.exit 0,[(0,.str ⟨s.toArray⟩),(1,.int .u8 (lo.toNat : Int)),(5,.int .i64 (s).length),(9,.bool false)]) else some (.ret,[(4,.bool false)]):=by
 refine cj (f:=ai (ev LI TT) (ak TT) rN) (s) (fun i=>[(0,.str ⟨s.toArray⟩),(1,.int .u8 (lo.toNat : Int)),(5,.int .i64 i)]) (fW lo.toNat) _ _ (fun i b hi hl=>?_) ?_
 ·have hw:=aL i (by first | omega | (simp at hl; omega))
  obtain ⟨_,rfl⟩:=List.getElem?_eq_some_iff.1 hi
  unfold fW
  simp -implicitDefEqProofs [rN,Az,hl,hw]
  all_goals (repeat' split) <;> first | rfl | omega | (simp_all; done) | (simp_all; omega) | skip
 ·simp -implicitDefEqProofs [rN,Az]
theorem CX (s : ah) (lo : UInt8) (hb : s.length≤9223372036854775807) : ev LI TT 305 [.str ⟨s.toArray⟩,.int .u8 (lo.toNat : Int)] = some (.bool ((aF (fW lo.toNat) s)),[.dead,.dead]):=by
 rw [ay (b:=vM) (rs:=[.t 4]) (n:=2) rfl rfl]
 have u1:=GY  s lo hb
 try simp at u1
 simp -implicitDefEqProofs [vM,u1]
 all_goals (repeat' split) <;> first | rfl | omega | (simp_all; done) | (simp_all; omega) | skip
end M
namespace M
open Go
def dn (b : UInt8) : Bool:=decide ¬ (b.toNat : Int) = 32
theorem HW (s : ah) (hb : s.length≤9223372036854775807) : aE (ai (ev LI TT) (ak TT) tM) [(0,.str ⟨s.toArray⟩),(3,.int .i64 0),(4,.int .i64 s.length)] = some (.exit 0,(fun (i : Nat)=>[(0,.str ⟨s.toArray⟩),(3,.int .i64 i),(4,.int .i64 s.length),(15,.bool false)]) (cH dn (s))):=by
 refine Fj (f:=ai (ev LI TT) (ak TT) tM) (s) (fun i=>[(0,.str ⟨s.toArray⟩),(3,.int .i64 i),(4,.int .i64 s.length)]) dn (fun (i : Nat)=>[(0,.str ⟨s.toArray⟩),(3,.int .i64 i),(4,.int .i64 s.length),(15,.bool false)]) (fun i b hi hl=>?_) ?_
 ·have hw:=aL i (by first | omega | (simp at hl; omega))
  obtain ⟨_,rfl⟩:=List.getElem?_eq_some_iff.1 hi
  simp -implicitDefEqProofs [tM,B1,hl,hw,dn]
  all_goals (repeat' split) <;> first | rfl | omega | (simp_all; done) | (simp_all; omega) | skip
 ·simp -implicitDefEqProofs [tM,B1]
theorem HX (s : ah) (k : Nat) (hk : k≤s.length) (hb : s.length≤9223372036854775807) : aE (ai (ev LI TT) (ak TT) tN) [(0,.str ⟨s.toArray⟩),(3,.int .i64 k),(4,.int .i64 ((s.length - 0 : Nat) : Int))] = some (.exit 2,(fun (i : Nat)=>[(0,.str ⟨s.toArray⟩),(3,.int .i64 k),(4,.int .i64 ((s.length - i : Nat) : Int)),(27,.bool false)]) (cH dn ((s.drop k).reverse))):=by
 refine Fj (f:=ai (ev LI TT) (ak TT) tN) ((s.drop k).reverse) (fun i=>[(0,.str ⟨s.toArray⟩),(3,.int .i64 k),(4,.int .i64 ((s.length - i : Nat) : Int))]) dn (fun (i : Nat)=>[(0,.str ⟨s.toArray⟩),(3,.int .i64 k),(4,.int .i64 ((s.length - i : Nat) : Int)),(27,.bool false)]) (fun i b hi hl=>?_) ?_
 ·have hw:=aL i (by first | omega | (simp at hl; omega))
  obtain ⟨_,rfl⟩:=List.getElem?_eq_some_iff.1 hi
  simp at hl
  obtain ⟨m,hm⟩ : ∃ m,s.length - i = m + 1:=⟨s.length - i - 1,by omega⟩
  have e1 : s.length - (i + 1) = m:=by omega
  have e2 : IntKind.i64.wrap (m : Int) = m:=ct (by omega) (by omega)
  have e3 : m < s.length:=by omega
  have e4 : ((s.drop k).reverse)[i] = s[m]:=by simp; congr 1; omega
  have e5 : (k : Int) < (m : Int) + 1:=by omega
  rw [e4,hm,e1]
  simp -implicitDefEqProofs [tN,B2,hl,hw,dn,e2,e3,e5]
  try (rw [List.getElem?_eq_getElem e3]; simp [e2])
  all_goals (repeat' split) <;> first | rfl | omega | (simp_all; done) | (simp_all; omega) | skip
 ·simp only [List.length_reverse,List.length_drop,show s.length - (s.length - k) = k by omega]
  simp -implicitDefEqProofs [tN,B2]
end M
namespace M
open Go
theorem Fv (b : UInt8) : dn b = true↔b≠32:=by
 unfold dn
 have : ((b.toNat : Int) = 32)↔b = 32:=by
  constructor
  ·intro h; exact UInt8.toNat_inj.1 (by have e : (32 : UInt8).toNat = 32:=rfl; omega)
  ·rintro rfl; rfl
 simp [this]
theorem Gp (s : ah) : Lib.trimLeftB s 32 = s.drop (cH dn s):=by
 refine Lib.trimLeftB_drop s 32 _ (x7 _ _) (fun j b hj hb=>?_) fun b hb=>(Fv b).1 (Gu _ _ _ hb)
 have:=Gv _ _ _ _ hj hb
 by_cases h : b = 32
 ·exact h
 ·rw [(Fv b).2 h] at this; cases this
theorem Ub (s : ah) : Lib.trimRightB s 32 = s.take (s.length - cH dn s.reverse):=by
 have h:=Gp s.reverse
 unfold Lib.trimLeftB at h
 unfold Lib.trimRightB
 rw [h,List.drop_reverse,List.reverse_reverse]
theorem Uc (s : ah) : (s.drop (cH dn s)).take (s.length - cH dn (s.drop (cH dn s)).reverse - cH dn s) = dD s:=by
 rw [Ud,Gp,Ub,List.length_drop]
 congr 1
 omega
theorem yR (s : ah) (hb : s.length≤9223372036854775807) : ev LI TT 264 [.str ⟨s.toArray⟩] = some (.str ⟨(dD s).toArray⟩,[.dead]):=by
 rw [ay (b:=xB) (rs:=[.t 2]) (n:=1) rfl rfl]
 have h1:=x7 dn s
 have h2:=x7 dn (s.drop (cH dn s)).reverse
 simp only [List.length_reverse,List.length_drop] at h2
 have h3:=Uc s
 have u1:=HW  s hb
 try simp at u1
 have u2:=HX  s (cH dn s) (x7 _ _) hb
 try simp at u2
 simp -implicitDefEqProofs [xB,u1,u2,(by omega : (cH dn s : Int)≤((s.length - cH dn (s.drop (cH dn s)).reverse : Nat) : Int)),(by omega : ((s.length - cH dn (s.drop (cH dn s)).reverse : Nat) : Int)≤s.length),Lib.extract_mk,h3]
 all_goals (repeat' split) <;> first | rfl | omega | (simp_all; done) | (simp_all; omega) | skip
theorem CW (s : ah) (hb : s.length≤9223372036854775807) : ev LI TT 306 [.str ⟨s.toArray⟩] = some (.str ⟨(dD s).toArray⟩,[.dead]):=by
 rw [ay (b:=vK) (rs:=[.t 2]) (n:=1) rfl rfl]
 have u1:=Kh  s hb
 try simp at u1
 simp -implicitDefEqProofs [vK,u1]
 all_goals (repeat' split) <;> first | rfl | omega | (simp_all; done) | (simp_all; omega) | skip
theorem HY (s : ah) (hb : s.length≤9223372036854775807) : aE (ai (ev LI TT) (ak TT) tO) [(0,.str ⟨s.toArray⟩),(3,.int .i64 0)] = if aF (fW 32) (s) = true then some (.exit 0,[(0,.str ⟨s.toArray⟩),(3,.int .i64 (s).length),(7,.bool false)]) else some (.ret,[(2,.bool false)]):=by
 refine cj (f:=ai (ev LI TT) (ak TT) tO) (s) (fun i=>[(0,.str ⟨s.toArray⟩),(3,.int .i64 i)]) (fW 32) _ _ (fun i b hi hl=>?_) ?_
 ·have hw:=aL i (by first | omega | (simp at hl; omega))
  obtain ⟨_,rfl⟩:=List.getElem?_eq_some_iff.1 hi
  unfold fW
  simp -implicitDefEqProofs [tO,B3,hl,hw]
  all_goals (repeat' split) <;> first | rfl | omega | (simp_all; done) | (simp_all; omega) | skip
 ·simp -implicitDefEqProofs [tO,B3]
theorem yS (s : ah) (hb : s.length≤9223372036854775807) : ev LI TT 185 [.str ⟨s.toArray⟩] = some (.bool ((gx s)),[.dead]):=by
 rw [ay (b:=nO) (rs:=[.t 2]) (n:=1) rfl rfl]
 unfold gx
 have u1:=HY  s hb
 try simp at u1
 have u2:=yR  s hb
 try simp at u2
 by_cases g1 : aF (fW 32) s = true
 rotate_left
 ·simp -implicitDefEqProofs [nO,u1,u2,g1]
 by_cases g2 : 1≤(s.length : Int)
 rotate_left
 ·simp -implicitDefEqProofs [nO,u1,u2,g1,eq_false g2]
 by_cases g3 : (s.length : Int)≤60
 rotate_left
 ·simp -implicitDefEqProofs [nO,u1,u2,g1,eq_true g2,eq_false g3]
 simp -implicitDefEqProofs [nO,u1,u2,g1,eq_true g2,eq_true g3]
 all_goals (repeat' split) <;> first | rfl | omega | (simp_all; done) | (simp_all; omega) | skip
theorem yA (s : ah) (hb : s.length≤9223372036854775807) : ev LI TT 261 [.str ⟨s.toArray⟩] = some (.bool ((gx s)),[.dead]):=by
 rw [ay (b:=mV) (rs:=[.t 2]) (n:=1) rfl rfl]
 unfold gx
 have VB : (32 : UInt8).toNat = 32:=rfl
 have u1:=CX  s 32 hb
 try simp at u1
 have u2:=CW  s hb
 try simp at u2
 by_cases g1 : 1≤(s.length : Int)
 rotate_left
 ·simp -implicitDefEqProofs [mV,u1,u2,eq_false g1]
 by_cases g2 : (s.length : Int)≤60
 rotate_left
 ·simp -implicitDefEqProofs [mV,u1,u2,eq_true g1,eq_false g2]
 by_cases g3 : aF (fW 32) s = true
 rotate_left
 ·simp -implicitDefEqProofs [mV,u1,u2,eq_true g1,eq_true g2,g3]
 simp -implicitDefEqProofs [mV,u1,u2,eq_true g1,eq_true g2,g3]
 all_goals (repeat' split) <;> first | rfl | omega | (simp_all; done) | (simp_all; omega) | skip
theorem H9 (s : ah) (hb : s.length≤9223372036854775807) : aE (ai (ev LI TT) (ak TT) tT) [(0,.str ⟨s.toArray⟩),(3,.int .i64 0)] = if aF (fW 33) (s) = true then some (.exit 0,[(0,.str ⟨s.toArray⟩),(3,.int .i64 (s).length),(7,.bool false)]) else some (.ret,[(2,.bool false)]):=by
 refine cj (f:=ai (ev LI TT) (ak TT) tT) (s) (fun i=>[(0,.str ⟨s.toArray⟩),(3,.int .i64 i)]) (fW 33) _ _ (fun i b hi hl=>?_) ?_
 ·have hw:=aL i (by first | omega | (simp at hl; omega))
  obtain ⟨_,rfl⟩:=List.getElem?_eq_some_iff.1 hi
  unfold fW
  simp -implicitDefEqProofs [tT,B7,hl,hw]
  all_goals (repeat' split) <;> first | rfl | omega | (simp_all; done) | (simp_all; omega) | skip
 ·simp -implicitDefEqProofs [tT,B7]
theorem yT (s : ah) (hb : s.length≤9223372036854775807) : ev LI TT 160 [.str ⟨s.toArray⟩] = some (.bool ((fV s)),[.dead]):=by
 rw [ay (b:=nP) (rs:=[.t 2]) (n:=1) rfl rfl]
 unfold fV
 have u1:=H9  s hb
 try simp at u1
 by_cases g1 : aF (fW 33) s = true
 rotate_left
 ·simp -implicitDefEqProofs [nP,u1,g1]
 by_cases g2 : 1≤(s.length : Int)
 rotate_left
 ·simp -implicitDefEqProofs [nP,u1,g1,eq_false g2]
 by_cases g3 : (s.length : Int)≤60
 rotate_left
 ·simp -implicitDefEqProofs [nP,u1,g1,eq_true g2,eq_false g3]
 obtain ⟨b,hb0⟩ : ∃ b,s[0]? = some b:=⟨s[0]'(by omega),by simp⟩
 simp -implicitDefEqProofs [nP,u1,g1,eq_true g2,eq_true g3,hb0]
 all_goals (repeat' split) <;> first | rfl | omega | (simp_all; done) | (simp_all; omega) | skip
theorem yB (s : ah) (hb : s.length≤9223372036854775807) : ev LI TT 259 [.str ⟨s.toArray⟩] = some (.bool ((fV s)),[.dead]):=by
 rw [ay (b:=oL) (rs:=[.t 2]) (n:=1) rfl rfl]
 unfold fV
 have VC : (33 : UInt8).toNat = 33:=rfl
 have u1:=CX  s 33 hb
 try simp at u1
 by_cases g1 : 1≤(s.length : Int)
 rotate_left
 ·simp -implicitDefEqProofs [oL,u1,eq_false g1]
 by_cases g2 : (s.length : Int)≤60
 rotate_left
 ·simp -implicitDefEqProofs [oL,u1,eq_true g1,eq_false g2]
 obtain ⟨b,hb0⟩ : ∃ b,s[0]? = some b:=⟨s[0]'(by omega),by simp⟩
 by_cases NK : (b.toNat : Int) = 47
 all_goals
 simp -implicitDefEqProofs [oL,u1,eq_true g1,eq_true g2,hb0,NK]
 all_goals (repeat' split) <;> first | rfl | omega | (simp_all; done) | (simp_all; omega) | skip
@[simp] theorem US (t : Int) : ev LI TT 143 [.int .i64 t] = some (.bool ((decide (0≤t∧t≤1000000))),[.dead]):=by
 rw [ay (b:=vU) (rs:=[.t 2]) (n:=1) rfl rfl]
 simp -implicitDefEqProofs [vU]
 all_goals (repeat' split) <;> first | rfl | omega | (simp_all; done) | (simp_all; omega) | skip
end M
namespace M
open Go
theorem HM (s : ah) (hb : s.length≤1073741824) : aE (ai (ev LI TT) (ak TT) nJ) [(0,.str ⟨s.toArray⟩),(3,.row .own 1 (([]).map eU)),(4,.int .i64 0)] = some (.exit 0,[(0,.str ⟨s.toArray⟩),(3,.row .own 1 ((((s).flatMap (fun b=>[iY b]))).map eU)),(4,.int .i64 (s).length),(10,.bool false)]):=by
 refine nv (f:=ai (ev LI TT) (ak TT) nJ) (s) (fun b=>[iY b]) (fun i out=>[(0,.str ⟨s.toArray⟩),(3,.row .own 1 ((out).map eU)),(4,.int .i64 i)]) (fun out=>[(0,.str ⟨s.toArray⟩),(3,.row .own 1 ((out).map eU)),(4,.int .i64 (s).length),(10,.bool false)]) (fun i b out hi hl hout=>?_) (fun out hout=>?_)
 ·have hw:=aL i (by first | omega | (simp at hl; omega))
  obtain ⟨_,rfl⟩:=List.getElem?_eq_some_iff.1 hi
  have hlo : out.length = i:=by rw [hout]; exact D8 _ _ _ (by omega)
  have hx:=s[i].toNat_lt
  unfold iY
  by_cases h1 : 65≤(s[i]).toNat
  rotate_left
  ·have h1' : ¬ (65 : Int)≤(s[i]).toNat:=by omega
   simp -implicitDefEqProofs [nJ,tH,hl,hw,h1,h1',hlo,fm]
   omega
  by_cases h2 : (s[i]).toNat≤90
  rotate_left
  ·have h1' : (65 : Int)≤(s[i]).toNat:=by omega
   have mI : ¬ ((s[i]).toNat : Int)≤90:=by omega
   have zK : 90 < ((s[i]).toNat : Int):=by omega
   simp -implicitDefEqProofs [nJ,tH,hl,hw,h1,h1',h2,mI,zK,hlo,fm]
   omega
  have h1' : (65 : Int)≤(s[i]).toNat:=by omega
  have mI : ((s[i]).toNat : Int)≤90:=by omega
  have h3:=Fk s[i] ⟨h1,h2⟩
  have h4 : IntKind.u8.wrap ((s[i]).toNat + 32) = (s[i]).toNat + 32:=GG (by omega) (by omega)
  simp -implicitDefEqProofs [nJ,tH,hl,hw,h1,h1',h2,mI,hlo,fm,h3,h4]
  omega
 ·simp -implicitDefEqProofs [nJ,tH]
theorem C7 (s : ah) (hb : s.length≤1073741824) : ev LI TT 254 [.str ⟨s.toArray⟩] = some (.str ⟨(br s).toArray⟩,[.dead]):=by
 rw [ay (b:=xw) (rs:=[.t 2]) (n:=1) rfl rfl]
 have hl : (br s).length = s.length:=by simp [br]
 have e : s.flatMap (fun b=>[iY b]) = br s:=zz iY s
 have u1:=HM  s hb
 try simp at u1
 simp -implicitDefEqProofs [xw,u1,e,hl,rowAt,(by omega : s.length≤9223372036854775807)]
 all_goals (repeat' split) <;> first | rfl | omega | (simp_all; done) | (simp_all; omega) | skip
theorem Rh (s : ah) (i : Nat) (h : i < s.length) (x : UInt8) (hx : x = iY s[i]) : (br (s.take i) ++ s.drop i).set i x = br (s.take (i + 1)) ++ s.drop (i + 1):=by
 subst hx
 rw [List.set_append_right _ _ (by simp [br]; omega),List.drop_eq_getElem_cons h]
 have : i - (br (s.take i)).length = 0:=by simp [br]; omega
 rw [this,List.take_succ_eq_append_getElem h]
 simp only [List.set_cons_zero,br,List.map_append,List.map_cons,List.map_nil,List.append_assoc,List.cons_append,List.nil_append]
theorem F5 (s : ah) (i : Nat) (h : i < s.length) (hx : iY s[i] = s[i]) : br (s.take i) ++ s.drop i = br (s.take (i + 1)) ++ s.drop (i + 1):=by
 rw [List.take_succ_eq_append_getElem h,List.drop_eq_getElem_cons h]
 simp only [br,hx,List.map_append,List.map_cons,List.map_nil,List.append_assoc,List.cons_append,List.nil_append]
theorem K0 (l : ah) (i : Nat) (x : Int) (b : UInt8) (hx : x = (b.toNat : Int)) : (l.map eU).modify i (fun e=>e.set 0 (X.int .u8 x)) = (l.set i b).map eU:=by
 subst hx
 apply List.ext_getElem?
 intro j
 rw [List.getElem?_modify,List.getElem?_map,List.getElem?_map,List.getElem?_set]
 by_cases h : i = j
 ·subst h
  by_cases h2 : i < l.length
  ·simp [h2]
  ·simp [h2,List.getElem?_eq_none (Nat.le_of_not_lt h2)]
 ·simp only [h,if_false]
  cases l[j]? <;> rfl
theorem GR (s : ah) (hb : s.length≤1073741824) : aE (ai (ev LI TT) (ak TT) mT) [(3,.row .own 1 ((br (s.take 0) ++ s.drop 0).map eU)),(6,.str ⟨s.toArray⟩),(8,.ref 3 []),(9,.int .i64 s.length),(10,.int .i64 0)] = some (.exit 0,[(3,.row .own 1 ((br s).map eU)),(6,.str ⟨s.toArray⟩),(8,.ref 3 []),(9,.int .i64 s.length),(10,.int .i64 (s).length),(11,.bool false)]):=by
 refine iX (f:=ai (ev LI TT) (ak TT) mT) (s) (fun i=>[(3,.row .own 1 ((br (s.take i) ++ s.drop i).map eU)),(6,.str ⟨s.toArray⟩),(8,.ref 3 []),(9,.int .i64 s.length),(10,.int .i64 i)]) _ (fun i b hi hl=>?_) ?_
 ·have hw:=aL i (by first | omega | (simp at hl; omega))
  obtain ⟨_,rfl⟩:=List.getElem?_eq_some_iff.1 hi
  have hk : (br (s.take i) ++ s.drop i).length = s.length:=by simp [br]; omega
  have hx:=s[i].toNat_lt
  have hg : (br (s.take i) ++ s.drop i)[i]? = some s[i]:=by rw [List.getElem?_append_right (by simp [br]; omega)]; simp [br,Nat.min_eq_left (Nat.le_of_lt hl)]
  have hg' : ∀ h,(br (s.take i) ++ s.drop i)[i]'h = s[i]:=fun h=>by rw [List.getElem?_eq_getElem h] at hg; exact Option.some.inj hg
  generalize hq : br (s.take i) ++ s.drop i = q at hk hg hg' ⊢
  have mM : i < q.length:=by omega
  by_cases h1 : 65≤(s[i]).toNat
  rotate_left
  ·have h1' : ¬ (65 : Int)≤(s[i]).toNat:=by omega
   have e:=F5 s i hl (by unfold iY; rw [if_neg (by omega)])
   rw [hq] at e
   simp -implicitDefEqProofs [mT,rI,hl,hw,hg,hg',mM,h1',← e]
  by_cases h2 : (s[i]).toNat≤90
  rotate_left
  ·have h1' : (65 : Int)≤(s[i]).toNat:=by omega
   have zK : 90 < ((s[i]).toNat : Int):=by omega
   have mI : ¬ ((s[i]).toNat : Int)≤90:=by omega
   have e:=F5 s i hl (by unfold iY; rw [if_neg (by omega)])
   rw [hq] at e
   simp -implicitDefEqProofs [mT,rI,hl,hw,hg,hg',mM,h1',mI,zK,← e]
  have h1' : (65 : Int)≤(s[i]).toNat:=by omega
  have mI : ((s[i]).toNat : Int)≤90:=by omega
  have h3:=Fk s[i] ⟨h1,h2⟩
  have h4 : IntKind.u8.wrap ((s[i]).toNat + 32) = (s[i]).toNat + 32:=GG (by omega) (by omega)
  have e:=Rh s i hl (s[i] + 32) (by unfold iY; rw [if_pos ⟨h1,h2⟩])
  rw [hq] at e
  have e2:=K0 q i _ (s[i] + 32) (show ((s[i]).toNat : Int) + 32 = _ by rw [h3]; rfl)
  rw [e] at e2
  simp -implicitDefEqProofs [mT,rI,hl,hw,hg,hg',mM,h1',mI,h4,e2]
  all_goals (repeat' split) <;> first | rfl | omega | (simp_all; done) | (simp_all; omega) | skip
 ·simp only [List.take_length,List.drop_length,List.append_nil]
  simp -implicitDefEqProofs [mT,rI]
theorem CS (s : ah) (hb : s.length≤1073741824) : ev LI TT 299 [.str ⟨s.toArray⟩] = some (.str ⟨(br s).toArray⟩,[.dead]):=by
 rw [ay (b:=vE) (rs:=[.t 2]) (n:=1) rfl rfl]
 have hl : (br s).length = s.length:=by simp [br]
 have e0 : br (s.take 0) ++ s.drop 0 = s:=by simp [br]
 have u1:=GR  s hb
 try simp at u1
 simp -implicitDefEqProofs [vE,u1,hl,rowAt,(by omega : s.length≤9223372036854775807)]
 all_goals (repeat' split) <;> first | rfl | omega | (simp_all; done) | (simp_all; omega) | skip
@[simp] theorem UU (x : Int) (y : Int) : ev LI TT 55 [.int .i64 x,.int .i64 y] = some (.int .i64 ((if x < y then x else y)),[.dead,.dead]):=by
 rw [ay (b:=xG) (rs:=[.t 4]) (n:=2) rfl rfl]
 simp -implicitDefEqProofs [xG]
 all_goals (repeat' split) <;> first | rfl | omega | (simp_all; done) | (simp_all; omega) | skip
end M
namespace M
open Go
theorem HP (n : Nat) (out : ah) (hn : out.length + n≤9223372036854775807) : aE (ai (ev LI TT) (ak TT) BV) [(0,.int .i64 n),(3,.str ⟨out.toArray⟩)] = some (.exit 0,[(0,.int .i64 0),(3,.str ⟨(nw n out).toArray⟩),(10,.bool false)]):=by
 have hs : ∀ s,ai (ev LI TT) (ak TT) BV s = ai (ev LI TT) (ak TT) xx s:=fun _=>rfl
 induction n using Nat.strongRecOn generalizing out with
 | ind n ih =>
  rw [iW,hs]
  unfold nw
  by_cases h : n = 0
  ·subst h
   simp -implicitDefEqProofs [xx]
  ·have hp : 0 < n:=by omega
   have:=ih (n / 10) (by omega) (UInt8.ofNat (48 + n % 10) :: out) (by rw [List.length_cons]; omega)
   have e1 : ((n : Int)).tmod 10 = ((n % 10 : Nat) : Int):=by rw [Int.tmod_eq_emod_of_nonneg (by omega)]; omega
   have e4 : ((n : Int)).tdiv 10 = ((n / 10 : Nat) : Int):=by rw [Int.tdiv_eq_ediv_of_nonneg (by omega)]; omega
   have e2 : IntKind.i64.wrap (48 + ((n % 10 : Nat) : Int)) = ((48 + n % 10 : Nat) : Int):=by rw [ct (by omega) (by omega)]; omega
   have e3 : IntKind.u8.wrap ((48 + n % 10 : Nat) : Int) = ((48 + n % 10 : Nat) : Int):=GH (by omega) (by omega)
   have e5:=Ug (48 + n % 10) (by omega)
   have e6 : IntKind.i64.wrap ((n / 10 : Nat) : Int) = ((n / 10 : Nat) : Int):=ct (by omega) (by omega)
   simp only [h,dite_false]
   rw [← this]
   simp -implicitDefEqProofs [xx,hp,Bo,e1,e2,e3,e4,e5,e6,-Int.natCast_emod,-Int.natCast_ediv,-Int.natCast_add,-UInt8.ofNat_add,Rx,(by omega : 1 + out.length≤9223372036854775807)]
theorem JY (n : Int) : ev LI TT 189 [.int .i64 n] = some (.str ⟨(nA n).toArray⟩,[.dead]):=by
 rw [ay (b:=pX) (rs:=[.t 2]) (n:=1) rfl rfl]
 unfold nA
 by_cases hn : 0≤n∧n≤1000000
 rotate_left
 ·have hf : (decide (0≤n) && decide (n≤1000000)) = false:=by simp; omega
  simp -implicitDefEqProofs [pX,hn,hf]
 obtain ⟨k,rfl⟩ : ∃ k : Nat,n = k:=⟨n.toNat,by omega⟩
 by_cases h : k = 0
 ·subst h; simp -implicitDefEqProofs [pX,KV]
 have h1:=HP k [] (by simp; omega)
 rw [Pp k [] h,List.append_nil] at h1
 simp -implicitDefEqProofs [pX,hn,h,h1]
 all_goals (repeat' split) <;> first | rfl | omega | (simp_all; done) | (simp_all; omega) | skip
theorem HN (s : ah) (hb : s.length≤7) (hd : aF ey s = true) (g : Nat) (hinv : g < 10 ^ 0) : aE (ai (ev LI TT) (ak TT) ji) [(0,.str ⟨s.toArray⟩),(4,.int .i64 (g : Nat)),(5,.int .i64 0)] = some (.exit 0,[(0,.str ⟨s.toArray⟩),(4,.int .i64 ((foldI (fun _ g b=>10 * g + b.toNat - 48) 0 (s) g) : Nat)),(5,.int .i64 (s).length),(16,.bool false)]):=by
 refine Fi (f:=ai (ev LI TT) (ak TT) ji) (s) (fun i (g : Nat)=>[(0,.str ⟨s.toArray⟩),(4,.int .i64 (g : Nat)),(5,.int .i64 i)]) (fun _ g b=>10 * g + b.toNat - 48) (fun g=>[(0,.str ⟨s.toArray⟩),(4,.int .i64 (g : Nat)),(5,.int .i64 (s).length),(16,.bool false)]) (fun i (g : Nat)=>g < 10 ^ i) g hinv (fun i b g hi hl hinv=>?_) (fun i b g hi hinv=>?_) (fun g hinv=>?_)
 ·have hw:=aL i (by first | omega | (simp at hl; omega))
  obtain ⟨_,rfl⟩:=List.getElem?_eq_some_iff.1 hi
  have hx:=iF.1 hd s[i] (List.getElem_mem hl)
  simp only [ey,decide_eq_true_eq] at hx
  have hp : 10 ^ i≤10 ^ 6:=Nat.pow_le_pow_right (by omega) (by omega)
  have h1 : ¬ ((s[i]).toNat : Int) < 48:=by omega
  have h2 : ¬ 57 < ((s[i]).toNat : Int):=by omega
  have e1 : IntKind.i64.wrap (10 * (g : Int)) = 10 * g:=ct (by omega) (by omega)
  have e0 : IntKind.i64.wrap ((s[i]).toNat : Int) = (s[i]).toNat:=ct (by omega) (by omega)
  have e2 : IntKind.i64.wrap (10 * (g : Int) + (s[i]).toNat) = 10 * g + (s[i]).toNat:=ct (by omega) (by omega)
  have e3 : IntKind.i64.wrap (10 * (g : Int) + (s[i]).toNat - 48) = ((10 * g + (s[i]).toNat - 48 : Nat) : Int):=by rw [ct (by omega) (by omega)]; omega
  simp -implicitDefEqProofs [ji,nK,hl,hw,h1,h2,e0,e1,e2,e3]
 ·obtain ⟨hl,rfl⟩:=List.getElem?_eq_some_iff.1 hi
  have hx:=iF.1 hd s[i] (List.getElem_mem hl)
  simp only [ey,decide_eq_true_eq] at hx
  rw [Nat.pow_succ]; omega
 ·simp -implicitDefEqProofs [ji,nK]
theorem HO (s : ah) (hb : s.length≤7) (hd : ¬ aF ey s = true) : aE (ai (ev LI TT) (ak TT) ji) [(0,.str ⟨s.toArray⟩),(4,.int .i64 0),(5,.int .i64 0)] = some (.ret,[(2,.int .i64 0),(3,.bool false)]):=by
 have key:=wZ (xt:=0) (f:=ai (ev LI TT) (ak TT) ji) s (fun i (g : Nat)=>[(0,.str ⟨s.toArray⟩),(4,.int .i64 (g : Int)),(5,.int .i64 i)]) (fun b g=>if ey b = true then .inl (10 * g + b.toNat - 48) else .inr (.ret,[(2,.int .i64 0),(3,.bool false)])) (fun g=>[(0,.str ⟨s.toArray⟩),(4,.int .i64 (g : Int)),(5,.int .i64 s.length),(16,.bool false)]) (fun i g=>g < 10 ^ i) 0 (by decide) (fun i b g hi hl hinv=>?_) (fun i b g g' hi hinv hg=>?_) (fun g hg=>?_)
 ·have hr : ∀ (r : ah) (g : Nat),¬ aF ey r = true→iy (fun (b : UInt8) (g : Nat)=>if ey b = true then (.inl (10 * g + b.toNat - 48) : Nat ⊕ (Ex×ag)) else .inr (.ret,[(2,.int .i64 0),(3,.bool false)])) r g = .inr (.ret,[(2,.int .i64 0),(3,.bool false)]):=by
   intro r
   induction r with
   | nil=>intro g h; exact absurd rfl h
   | cons b r ih =>
    intro g h
    simp only [iy]
    by_cases hb : ey b = true
    ·simp only [hb,if_true]
     exact ih _ fun h'=>h (by rw [iF] at h' ⊢; intro x hx; rcases List.mem_cons.1 hx with rfl | hx; exact hb; exact h' x hx)
    ·simp [hb]
  rw [hr s 0 hd] at key
  simpa [lv] using key
 ·have hw:=aL i (by omega)
  obtain ⟨_,rfl⟩:=List.getElem?_eq_some_iff.1 hi
  by_cases h : ey s[i] = true
  ·have hx:=h
   simp only [ey,decide_eq_true_eq] at hx
   have hp : 10 ^ i≤10 ^ 6:=Nat.pow_le_pow_right (by omega) (by omega)
   have h1 : ¬ ((s[i]).toNat : Int) < 48:=by omega
   have h2 : ¬ 57 < ((s[i]).toNat : Int):=by omega
   have e1 : IntKind.i64.wrap (10 * (g : Int)) = 10 * g:=ct (by omega) (by omega)
   have e0 : IntKind.i64.wrap ((s[i]).toNat : Int) = (s[i]).toNat:=ct (by omega) (by omega)
   have e2 : IntKind.i64.wrap (10 * (g : Int) + (s[i]).toNat) = 10 * g + (s[i]).toNat:=ct (by omega) (by omega)
   have e3 : IntKind.i64.wrap (10 * (g : Int) + (s[i]).toNat - 48) = ((10 * g + (s[i]).toNat - 48 : Nat) : Int):=by rw [ct (by omega) (by omega)]; omega
   simp -implicitDefEqProofs [ji,nK,hl,hw,h,h1,h2,e0,e1,e2,e3]
  ·have hx:=h
   simp only [ey,decide_eq_true_eq] at hx
   by_cases h1 : ((s[i]).toNat : Int) < 48
   ·simp -implicitDefEqProofs [ji,nK,hl,hw,h,h1,lv]
   ·have h2 : 57 < ((s[i]).toNat : Int):=by omega
    simp -implicitDefEqProofs [ji,nK,hl,hw,h,h1,h2,lv]
 ·obtain ⟨hl,rfl⟩:=List.getElem?_eq_some_iff.1 hi
  split at hg
  ·rename_i hx
   simp only [ey,decide_eq_true_eq] at hx
   injection hg with hg
   rw [Nat.pow_succ]; omega
  ·cases hg
 ·simp -implicitDefEqProofs [ji,nK]
theorem Ea {β γ : Type} (go : γ→β→γ) : ∀ (l : List β) (i : Nat) (g : γ),foldI (fun _ g b=>go g b) i l g = l.foldl go g
 | [],_,_=>rfl
 | b :: l,i,g=>by rw [foldI,Ea go l,List.foldl_cons]
theorem JX (s : ah) (hb : s.length≤9223372036854775807) : ev LI TT 216 [.str ⟨s.toArray⟩] = some (.au [.int .i64 ((((cL s).getD 0 : Nat) : Int)),.bool ((cL s).isSome)],[.dead]):=by
 rw [ay (b:=l5) (rs:=[.t 2,.t 3]) (n:=1) rfl rfl]
 by_cases h7 : 7 < s.length
 ·have qR : 7 < (s.length : Int):=by omega
  have hn : ¬ s = []:=by rintro rfl; simp at h7
  simp -implicitDefEqProofs [l5,Fw s h7,qR,hn]
 have qR : ¬ 7 < (s.length : Int):=by omega
 rw [PU s (by omega)]
 by_cases h0 : s = []
 ·subst h0; simp -implicitDefEqProofs [l5]
 by_cases hd : aF ey s = true
 rotate_left
 ·have u1:=HO s (by omega) hd
  simp -implicitDefEqProofs [l5,qR,h0,hd,u1]
 have u1:=HN s (by omega) hd 0 (by decide)
 rw [show foldI (fun _ (g : Nat) (b : UInt8)=>10 * g + b.toNat - 48) 0 s 0 = iC s from Ea _ s 0 0] at u1
 simp only [Int.ofNat_zero] at u1
 have u2:=JY (iC s)
 by_cases ht : nA (iC s) = s
 rotate_left
 ·simp -implicitDefEqProofs [l5,qR,h0,hd,u1,u2,eq_false ht]
 simp -implicitDefEqProofs [l5,qR,h0,hd,u1,u2,eq_true ht]
 all_goals (repeat' split) <;> first | rfl | omega | (simp_all; done) | (simp_all; omega) | skip
end M
namespace M
open Go
def fH (w : ah) : List ah:=if dD w≠[] then [dD w] else []
theorem QJ (s : ah) (i : Nat) (h : i < (s.map some ++ [none]).length) : (∃ hi : i < s.length,(s.map some ++ [none])[i] = some s[i])∨(i = s.length∧(s.map some ++ [none])[i] = none):=by
 by_cases hi : i < s.length
 ·refine .inl ⟨hi,?_⟩
  rw [List.getElem_append_left (by simpa using hi)]
  simp
 ·simp at h
  obtain rfl : i = s.length:=by omega
  refine .inr ⟨rfl,?_⟩
  rw [List.getElem_append_right (by simp)]
  simp
theorem F8 (w : ah) : (fH w).length≤1:=by unfold fH; split <;> simp
theorem NH (c : UInt8) (f : ah→List ah) (hf : ∀ w,(f w).length≤1) (s : ah) (i : Nat) (g : List ah×Nat) (b : Option UInt8) (h : g.2≤i∧g.1.length≤i) : (fA c f s i g b).2≤i + 1∧(fA c f s i g b).1.length≤i + 1:=by
 unfold fA
 have:=hf ((s.take i).drop g.2)
 split
 ·split
  ·simp; omega
  ·omega
 ·simp; omega
theorem HU (s : ah) (hb : s.length≤1073741824) (g : List ah×Nat) (hinv : g.2≤0∧g.1.length≤0) : aE (ai (ev LI TT) (ak TT) kL) [(0,.str ⟨s.toArray⟩),(3,.row .own 1 ((g).1.map eS)),(4,.int .i64 ((g).2 : Nat)),(5,.int .i64 0)] = some (.exit 0,[(0,.str ⟨s.toArray⟩),(3,.row .own 1 (((foldI (fA 44 fH s) 0 (s.map some ++ [none]) g)).1.map eS)),(4,.int .i64 (((foldI (fA 44 fH s) 0 (s.map some ++ [none]) g)).2 : Nat)),(5,.int .i64 (s.map some ++ [none]).length),(11,.bool false)]):=by
 refine Fi (f:=ai (ev LI TT) (ak TT) kL) (s.map some ++ [none]) (fun i (g : List ah×Nat)=>[(0,.str ⟨s.toArray⟩),(3,.row .own 1 ((g).1.map eS)),(4,.int .i64 ((g).2 : Nat)),(5,.int .i64 i)]) (fA 44 fH s) (fun g=>[(0,.str ⟨s.toArray⟩),(3,.row .own 1 ((g).1.map eS)),(4,.int .i64 ((g).2 : Nat)),(5,.int .i64 (s.map some ++ [none]).length),(11,.bool false)]) (fun i (g : List ah×Nat)=>g.2≤i∧g.1.length≤i) g hinv (fun i b g hi hl hinv=>?_) (fun i b g hi hinv=>?_) (fun g hinv=>?_)
 ·have hw:=aL i (by first | omega | (simp at hl; omega))
  obtain ⟨_,rfl⟩:=List.getElem?_eq_some_iff.1 hi
  have hlz : (g.1.length + 1) * 16≤140737488355328:=by simp at hl; omega
  have Et : ∀ b : UInt8,((b.toNat : Int) = 44)↔b = 44:=fun b=>⟨fun h=>UInt8.toNat_inj.1 (by have e : (44 : UInt8).toNat = 44:=rfl; omega),fun h=>by subst h; rfl⟩
  rcases QJ s i hl with ⟨hi',e⟩ | ⟨rfl,e⟩
  ·rw [e]
   have k1 : (i : Int)≤s.length:=by omega
   have k2 : i≤s.length:=by omega
   have hc:=yR ((s.drop g.2).take (i - g.2)) (by simp; omega)
   by_cases hx : s[i] = 44
   rotate_left
   ·have hx':=mt (Et s[i]).1 hx
    simp -implicitDefEqProofs [kL,nN,k1,k2,hi',hw,fA,hx,hx']
   have hx':=(Et s[i]).2 hx
   have e3 : (s.take i).drop g.2 = (s.drop g.2).take (i - g.2):=List.drop_take ..
   by_cases ht : dD ((s.drop g.2).take (i - g.2)) = []
   ·simp -implicitDefEqProofs [kL,nN,k1,k2,hi',hw,fA,eq_true hx,hx',hinv,hc,Lib.extract_mk,fH,e3,eq_true ht]
   ·simp -implicitDefEqProofs [kL,nN,k1,k2,hi',hw,fA,eq_true hx,hx',hinv,hc,Lib.extract_mk,fH,e3,eq_false ht,fm,hlz]
  rw [e]
  have hc:=yR ((s.drop g.2).take (s.length - g.2)) (by simp; omega)
  have e3 : (s.take s.length).drop g.2 = (s.drop g.2).take (s.length - g.2):=List.drop_take ..
  by_cases ht : dD ((s.drop g.2).take (s.length - g.2)) = []
  ·simp only [fA,e3,fH,eq_true ht]
   simp -implicitDefEqProofs [kL,nN,hw,hinv,hc,Lib.extract_mk,eq_true ht]
  simp only [fA,e3,fH,eq_false ht]
  simp -implicitDefEqProofs [kL,nN,hl,hw,hinv,hc,Lib.extract_mk,eq_false ht,fm,hlz]
 ·exact NH 44 fH F8 s i g b hinv
 ·have N9 : ¬ ((s.length : Int) + 1≤s.length):=by omega
  simp -implicitDefEqProofs [kL,nN,N9]
theorem C9 (s : ah) (hb : s.length≤1073741824) : ev LI TT 253 [.str ⟨s.toArray⟩] = some (.row .own 1 ((ep s).map eS),[.dead]):=by
 rw [ay (b:=xy) (rs:=[.t 2]) (n:=1) rfl rfl]
 have u1:=HU s hb ([],0) ⟨by omega,by simp⟩
 rw [Ny,show (cl 44 s).flatMap fH = ep s from (GD s).symm] at u1
 simp at u1
 simp -implicitDefEqProofs [xy,u1]
 all_goals (repeat' split) <;> first | rfl | omega | (simp_all; done) | (simp_all; omega) | skip
theorem GV (s : ah) (ws : List ah) (hb : ∀ w∈ws,w.length≤1073741824) (hl0 : ws.length≤1073741825) : aE (ai (ev LI TT) (ak TT) oJ) [(3,.row .own 1 (([]).map eS)),(8,.row .own 1 (ws.map eS)),(9,.int .i64 ws.length),(10,.int .i64 0)] = some (.exit 0,[(3,.row .own 1 ((((ws).flatMap fH)).map eS)),(8,.row .own 1 (ws.map eS)),(9,.int .i64 ws.length),(10,.int .i64 (ws).length),(11,.bool false)]):=by
 refine nv (f:=ai (ev LI TT) (ak TT) oJ) (ws) fH (fun i out=>[(3,.row .own 1 ((out).map eS)),(8,.row .own 1 (ws.map eS)),(9,.int .i64 ws.length),(10,.int .i64 i)]) (fun out=>[(3,.row .own 1 ((out).map eS)),(8,.row .own 1 (ws.map eS)),(9,.int .i64 ws.length),(10,.int .i64 (ws).length),(11,.bool false)]) (fun i b out hi hl hout=>?_) (fun out hout=>?_)
 ·have hw:=aL i (by first | omega | (simp at hl; omega))
  obtain ⟨_,rfl⟩:=List.getElem?_eq_some_iff.1 hi
  have hlo : out.length≤i:=by rw [hout]; exact K9 fH F8 ws i
  have hlz : (out.length + 1) * 16≤140737488355328:=by omega
  have hc:=CW ws[i] (by have:=hb _ (List.getElem_mem hl); omega)
  unfold fH
  by_cases ht : dD ws[i] = []
  ·simp -implicitDefEqProofs [oJ,vH,hl,hw,hc,eq_true ht]
  simp -implicitDefEqProofs [oJ,vH,hl,hw,hc,eq_false ht,fm,hlz]
 ·simp -implicitDefEqProofs [oJ,vH]
theorem CV (s : ah) (hb : s.length≤1073741824) : ev LI TT 297 [.str ⟨s.toArray⟩] = some (.row .own 1 ((ep s).map eS),[.dead]):=by
 rw [ay (b:=vI) (rs:=[.t 2]) (n:=1) rfl rfl]
 rw [GD s,show (fun w=>if dD w≠[] then [dD w] else []) = fH from rfl]
 have u1:=Kg  s 44 (by omega)
 try simp at u1
 have u2:=GV  s (cl 44 s) (fun w hw=>by have:=Gb 44 s w hw; omega) (by have:=Ga 44 s; omega)
 try simp at u2
 simp -implicitDefEqProofs [vI,u1,u2]
 all_goals (repeat' split) <;> first | rfl | omega | (simp_all; done) | (simp_all; omega) | skip
theorem Ib (l : List ah) (hl0 : l.length≤1073741824) (hb : ∀ w∈l,w.length≤1073741824) : aE (ai (ev LI TT) (ak TT) tU) [(0,.row .af 1 (l.map eS)),(3,.int .i64 0)] = if aF ek (l) = true then some (.exit 0,[(0,.row .af 1 (l.map eS)),(3,.int .i64 (l).length),(7,.bool false)]) else some (.ret,[(2,.bool false)]):=by
 refine cj (f:=ai (ev LI TT) (ak TT) tU) (l) (fun i=>[(0,.row .af 1 (l.map eS)),(3,.int .i64 i)]) ek _ _ (fun i b hi hl=>?_) ?_
 ·have hw:=aL i (by first | omega | (simp at hl; omega))
  obtain ⟨_,rfl⟩:=List.getElem?_eq_some_iff.1 hi
  have u1:=yQ  l[i] (by have:=hb _ (List.getElem_mem hl); omega)
  try simp at u1
  simp -implicitDefEqProofs [tU,B8,hl,hw,u1]
  all_goals (repeat' split) <;> first | rfl | omega | (simp_all; done) | (simp_all; omega) | skip
 ·simp -implicitDefEqProofs [tU,B8]
theorem J6 (l : List ah) (hl0 : l.length≤1073741824) (hb : ∀ w∈l,w.length≤1073741824) : ev LI TT 202 [.row .af 1 (l.map eS)] = some (.bool ((aF ek l && decide ((l.length : Int)≤4))),[.dead]):=by
 rw [ay (b:=xI) (rs:=[.t 2]) (n:=1) rfl rfl]
 have u1:=Ib  l hl0 hb
 try simp at u1
 simp -implicitDefEqProofs [xI,u1]
 all_goals (repeat' split) <;> first | rfl | omega | (simp_all; done) | (simp_all; omega) | skip
theorem G4 (l : List ah) (hl0 : l.length≤1073741824) (hb : ∀ w∈l,w.length≤1073741824) : aE (ai (ev LI TT) (ak TT) rP) [(0,.row .af 1 (l.map eS)),(5,.row .af 1 (l.map eS)),(6,.int .i64 l.length),(7,.int .i64 0)] = if aF ek (l) = true then some (.exit 0,[(0,.row .af 1 (l.map eS)),(5,.row .af 1 (l.map eS)),(6,.int .i64 l.length),(7,.int .i64 (l).length),(8,.bool false)]) else some (.ret,[(2,.bool false)]):=by
 refine cj (f:=ai (ev LI TT) (ak TT) rP) (l) (fun i=>[(0,.row .af 1 (l.map eS)),(5,.row .af 1 (l.map eS)),(6,.int .i64 l.length),(7,.int .i64 i)]) ek _ _ (fun i b hi hl=>?_) ?_
 ·have hw:=aL i (by first | omega | (simp at hl; omega))
  obtain ⟨_,rfl⟩:=List.getElem?_eq_some_iff.1 hi
  have u1:=yz  l[i] (by have:=hb _ (List.getElem_mem hl); omega)
  try simp at u1
  simp -implicitDefEqProofs [rP,AB,hl,hw,u1]
  all_goals (repeat' split) <;> first | rfl | omega | (simp_all; done) | (simp_all; omega) | skip
 ·simp -implicitDefEqProofs [rP,AB]
theorem IZ (l : List ah) (hl0 : l.length≤1073741824) (hb : ∀ w∈l,w.length≤1073741824) : ev LI TT 271 [.row .af 1 (l.map eS)] = some (.bool ((aF ek l && decide ((l.length : Int)≤4))),[.dead]):=by
 rw [ay (b:=vV) (rs:=[.t 2]) (n:=1) rfl rfl]
 have u1:=G4  l hl0 hb
 try simp at u1
 simp -implicitDefEqProofs [vV,u1]
 all_goals (repeat' split) <;> first | rfl | omega | (simp_all; done) | (simp_all; omega) | skip
end M
namespace M
open Go
theorem H8 (fs : List aK) (n : ah) (hb : fs.length≤9223372036854775807) : aE (ai (ev LI TT) (ak TT) tR) [(0,.row .af 2 (fs.map aG)),(1,.str ⟨n.toArray⟩),(5,.int .i64 0)] = (cX (fun f=>decide (f.name = n)) 0 (fs)).elim (some (.exit 0,[(0,.row .af 2 (fs.map aG)),(1,.str ⟨n.toArray⟩),(5,.int .i64 (fs).length),(9,.bool false)])) fun x=>some (.ret,(fun (i : Nat) b=>[(4,.int .i64 i)]) x.1 x.2):=by
 refine sQ (f:=ai (ev LI TT) (ak TT) tR) (fs) (fun i=>[(0,.row .af 2 (fs.map aG)),(1,.str ⟨n.toArray⟩),(5,.int .i64 i)]) (fun f=>decide (f.name = n)) (fun (i : Nat) b=>[(4,.int .i64 i)]) _ (fun i b hi hl=>?_) ?_
 ·have hw:=aL i (by first | omega | (simp at hl; omega))
  obtain ⟨_,rfl⟩:=List.getElem?_eq_some_iff.1 hi
  simp -implicitDefEqProofs [tR,B6,hl,hw]
 ·simp -implicitDefEqProofs [tR,B6]
theorem Da (fs : List aK) (n : ah) (hb : fs.length≤9223372036854775807) : ev LI TT 252 [.row .af 2 (fs.map aG),.str ⟨n.toArray⟩] = some (.int .i64 (fX (fK fs n)),[.dead,.dead]):=by
 rw [ay (b:=tS) (rs:=[.t 4]) (n:=2) rfl rfl]
 have h:=H8  fs n hb
 rw [show cX (fun f=>decide (f.name = n)) 0 fs = fK fs n from rfl] at h
 simp at h
 cases g : fK fs n with
 | none=>rw [g] at h; simp at h; simp -implicitDefEqProofs [tS,h,fX]
 | some x =>
 rw [g] at h
 simp at h
 simp -implicitDefEqProofs [tS,h,fX]
 all_goals (repeat' split) <;> first | rfl | omega | (simp_all; done) | (simp_all; omega) | skip
theorem C6 (fs : List aK) (n : ah) (hb : fs.length≤9223372036854775807) : ev LI TT 162 [.row .af 2 (fs.map aG),.str ⟨n.toArray⟩] = some (.au [.str ⟨((di fs n).getD []).toArray⟩,.bool (di fs n).isSome],[.dead,.dead]):=by
 rw [ay (b:=tD) (rs:=[.t 4,.t 5]) (n:=2) rfl rfl]
 have h:=Da  fs n hb
 unfold di
 cases g : fK fs n with
 | none=>rw [g] at h; simp [fX] at h; simp -implicitDefEqProofs [tD,h]
 | some x =>
 obtain ⟨i,b⟩:=x
 rw [g] at h
 obtain ⟨h1,h2,h3⟩:=oA g
 simp at h2
 simp [fX] at h
 have hi : i < fs.length:=(List.getElem?_eq_some_iff.1 h2).1
 obtain ⟨_,rfl⟩:=List.getElem?_eq_some_iff.1 h2
 simp -implicitDefEqProofs [tD,h,hi]
 all_goals (repeat' split) <;> first | rfl | omega | (simp_all; done) | (simp_all; omega) | skip
theorem IX (f : aK) (n : ah) : ev LI TT 321 [.agg (aG f),.ptr .af [.str ⟨n.toArray⟩]] = some (.bool (decide (f.name = n)),[.dead,.dead]):=by
 rw [ay (b:=vN) (rs:=[.t 3]) (n:=2) rfl rfl]
 simp -implicitDefEqProofs [vN]
 all_goals (repeat' split) <;> first | rfl | omega | (simp_all; done) | (simp_all; omega) | skip
theorem Ig (fs : List aK) (n : ah) (hb : fs.length≤9223372036854775807) : aE (ai (ev LI TT) (ak TT) um) [(0,.row .af 2 (fs.map aG)),(1,.fn 321 [.ptr .af [.str ⟨n.toArray⟩]]),(7,.int .i64 fs.length),(8,.int .i64 0)] = (cX (fun f=>decide (f.name = n)) 0 (fs)).elim (some (.exit 0,[(0,.row .af 2 (fs.map aG)),(1,.fn 321 [.ptr .af [.str ⟨n.toArray⟩]]),(7,.int .i64 fs.length),(8,.int .i64 (fs).length),(9,.bool false)])) fun x=>some (.ret,(fun (i : Nat) b=>[(4,.int .i64 i)]) x.1 x.2):=by
 refine sQ (f:=ai (ev LI TT) (ak TT) um) (fs) (fun i=>[(0,.row .af 2 (fs.map aG)),(1,.fn 321 [.ptr .af [.str ⟨n.toArray⟩]]),(7,.int .i64 fs.length),(8,.int .i64 i)]) (fun f=>decide (f.name = n)) (fun (i : Nat) b=>[(4,.int .i64 i)]) _ (fun i b hi hl=>?_) ?_
 ·have hw:=aL i (by first | omega | (simp at hl; omega))
  obtain ⟨_,rfl⟩:=List.getElem?_eq_some_iff.1 hi
  have ho : ak TT 321 = true:=rfl
  have hf:=IX  fs[i] n
  simp at hf
  simp -implicitDefEqProofs [um,Cw,hl,hw,ho,vY,hf]
 ·simp -implicitDefEqProofs [um,Cw]
theorem Kb (fs : List aK) (n : ah) (hb : fs.length≤9223372036854775807) : ev LI TT 320 [.row .af 2 (fs.map aG),.fn 321 [.ptr .af [.str ⟨n.toArray⟩]]] = some (.int .i64 (fX (fK fs n)),[.dead,.dead]):=by
 rw [ay (b:=uo) (rs:=[.t 4]) (n:=2) rfl rfl]
 have h:=Ig  fs n hb
 rw [show cX (fun f=>decide (f.name = n)) 0 fs = fK fs n from rfl] at h
 simp at h
 cases g : fK fs n with
 | none=>rw [g] at h; simp at h; simp -implicitDefEqProofs [uo,h,fX]
 | some x =>
 rw [g] at h
 simp at h
 simp -implicitDefEqProofs [uo,h,fX]
 all_goals (repeat' split) <;> first | rfl | omega | (simp_all; done) | (simp_all; omega) | skip
theorem CY (fs : List aK) (n : ah) (hb : fs.length≤9223372036854775807) : ev LI TT 296 [.row .af 2 (fs.map aG),.str ⟨n.toArray⟩] = some (.int .i64 (fX (fK fs n)),[.dead,.dead]):=by
 rw [ay (b:=vO) (rs:=[.t 4]) (n:=2) rfl rfl]
 have h:=Kb  fs n hb
 simp -implicitDefEqProofs [vO,h,gR,eN]
 all_goals (repeat' split) <;> first | rfl | omega | (simp_all; done) | (simp_all; omega) | skip
theorem CR (fs : List aK) (n : ah) (hb : fs.length≤9223372036854775807) : ev LI TT 234 [.row .af 2 (fs.map aG),.str ⟨n.toArray⟩] = some (.au [.str ⟨((di fs n).getD []).toArray⟩,.bool (di fs n).isSome],[.dead,.dead]):=by
 rw [ay (b:=rF) (rs:=[.t 4,.t 5]) (n:=2) rfl rfl]
 have h:=CY  fs n hb
 unfold di
 cases g : fK fs n with
 | none=>rw [g] at h; simp [fX] at h; simp -implicitDefEqProofs [rF,h]
 | some x =>
 obtain ⟨i,b⟩:=x
 rw [g] at h
 obtain ⟨h1,h2,h3⟩:=oA g
 simp at h2
 simp [fX] at h
 have hi : i < fs.length:=(List.getElem?_eq_some_iff.1 h2).1
 obtain ⟨_,rfl⟩:=List.getElem?_eq_some_iff.1 h2
 simp -implicitDefEqProofs [rF,h,hi]
 all_goals (repeat' split) <;> first | rfl | omega | (simp_all; done) | (simp_all; omega) | skip
end M
namespace M
open Go
theorem sY : (⟨#[99,111,110,116,101,110,116,45,108,101,110,103,116,104]⟩ : ByteArray) = ⟨xd.toArray⟩:=rfl
theorem HK (fs : List aK) (hb : wL aJ fs≤1073741824) : aE (ai (ev LI TT) (ak TT) kK) [(0,.row .af 2 (fs.map aG)),(3,.int .i64 0)] = if aF (fO fs) (fs.zipIdx) = true then some (.exit 0,[(0,.row .af 2 (fs.map aG)),(3,.int .i64 (fs.zipIdx).length),(7,.bool false)]) else some (.ret,[(2,.bool false)]):=by
 refine cj (f:=ai (ev LI TT) (ak TT) kK) (fs.zipIdx) (fun i=>[(0,.row .af 2 (fs.map aG)),(3,.int .i64 i)]) (fO fs) _ _ (fun i b hi hl=>?_) ?_
 ·have hw:=aL i (by have:=bt (w:=aJ) fs; simp at hl; omega)
  obtain ⟨_,rfl⟩:=List.getElem?_eq_some_iff.1 hi
  simp only [List.length_zipIdx] at hl
  have hz : fs.zipIdx[i]'(by simpa using hl) = (fs[i],i):=by simp
  have hm:=Ct (List.getElem_mem hl)
  have hfl:=bt (w:=aJ) fs
  rw [hz]
  have u1:=yQ  fs[i].name (by omega)
  try simp at u1
  have u2:=yS  fs[i].value (by omega)
  try simp at u2
  have u3:=Da  fs fs[i].name (by omega)
  try simp at u3
  by_cases g1 : ek fs[i].name = true
  rotate_left
  ·simp -implicitDefEqProofs [kK,nI,hl,hw,u1,u2,u3,fO,g1]
  by_cases g2 : gx fs[i].value = true
  rotate_left
  ·simp -implicitDefEqProofs [kK,nI,hl,hw,u1,u2,u3,fO,g1,g2]
  by_cases g3 : fX (fK fs fs[i].name) = i
  rotate_left
  ·simp -implicitDefEqProofs [kK,nI,hl,hw,u1,u2,u3,fO,g1,g2,eq_false g3]
  by_cases hcl : fs[i].name = xd
  ·simp -implicitDefEqProofs [kK,nI,hl,hw,u1,u2,u3,g1,g2,eq_true g3,fO,sY,eq_true hcl]
  simp -implicitDefEqProofs [kK,nI,hl,hw,u1,u2,u3,fO,g1,g2,eq_true g3,sY,eq_false hcl]
  all_goals (repeat' split) <;> first | rfl | omega | (simp_all; done) | (simp_all; omega) | skip
 ·simp -implicitDefEqProofs [kK,nI]
theorem C5 (fs : List aK) (hb : wL aJ fs≤1073741824) : ev LI TT 161 [.row .af 2 (fs.map aG)] = some (.bool ((jX fs)),[.dead]):=by
 rw [ay (b:=xq) (rs:=[.t 2]) (n:=1) rfl rfl]
 unfold jX
 have hfl:=bt (w:=aJ) fs
 have u1:=HK  fs hb
 try simp at u1
 simp -implicitDefEqProofs [xq,u1]
 all_goals (repeat' split) <;> first | rfl | omega | (simp_all; done) | (simp_all; omega) | skip
theorem GP (fs : List aK) (hb : wL aJ fs≤1073741824) : aE (ai (ev LI TT) (ak TT) ko) [(0,.row .af 2 (fs.map aG)),(5,.row .af 2 (fs.map aG)),(6,.int .i64 fs.length),(7,.int .i64 0)] = if aF (fO fs) (fs.zipIdx) = true then some (.exit 0,[(0,.row .af 2 (fs.map aG)),(5,.row .af 2 (fs.map aG)),(6,.int .i64 fs.length),(7,.int .i64 (fs.zipIdx).length),(8,.bool false)]) else some (.ret,[(2,.bool false)]):=by
 refine cj (f:=ai (ev LI TT) (ak TT) ko) (fs.zipIdx) (fun i=>[(0,.row .af 2 (fs.map aG)),(5,.row .af 2 (fs.map aG)),(6,.int .i64 fs.length),(7,.int .i64 i)]) (fO fs) _ _ (fun i b hi hl=>?_) ?_
 ·have hw:=aL i (by have:=bt (w:=aJ) fs; simp at hl; omega)
  obtain ⟨_,rfl⟩:=List.getElem?_eq_some_iff.1 hi
  simp only [List.length_zipIdx] at hl
  have hz : fs.zipIdx[i]'(by simpa using hl) = (fs[i],i):=by simp
  have hm:=Ct (List.getElem_mem hl)
  have hfl:=bt (w:=aJ) fs
  rw [hz]
  have u1:=yz  fs[i].name (by omega)
  try simp at u1
  have u2:=yA  fs[i].value (by omega)
  try simp at u2
  have u3:=CY  fs fs[i].name (by omega)
  try simp at u3
  by_cases g1 : ek fs[i].name = true
  rotate_left
  ·simp -implicitDefEqProofs [ko,mS,hl,hw,u1,u2,u3,fO,g1]
  by_cases g2 : gx fs[i].value = true
  rotate_left
  ·simp -implicitDefEqProofs [ko,mS,hl,hw,u1,u2,u3,fO,g1,g2]
  by_cases hcl : fs[i].name = xd
  ·simp -implicitDefEqProofs [ko,mS,hl,hw,u1,u2,u3,g1,g2,fO,sY,eq_true hcl]
  by_cases g3 : fX (fK fs fs[i].name) = i
  rotate_left
  ·simp -implicitDefEqProofs [ko,mS,hl,hw,u1,u2,u3,g1,g2,fO,sY,eq_false hcl,eq_false g3]
  simp -implicitDefEqProofs [ko,mS,hl,hw,u1,u2,u3,fO,g1,g2,sY,eq_false hcl,eq_true g3]
  all_goals (repeat' split) <;> first | rfl | omega | (simp_all; done) | (simp_all; omega) | skip
 ·simp -implicitDefEqProofs [ko,mS]
theorem CQ (fs : List aK) (hb : wL aJ fs≤1073741824) : ev LI TT 294 [.row .af 2 (fs.map aG)] = some (.bool ((jX fs)),[.dead]):=by
 rw [ay (b:=vC) (rs:=[.t 2]) (n:=1) rfl rfl]
 unfold jX
 have hfl:=bt (w:=aJ) fs
 have u1:=GP  fs hb
 try simp at u1
 simp -implicitDefEqProofs [vC,u1]
 all_goals (repeat' split) <;> first | rfl | omega | (simp_all; done) | (simp_all; omega) | skip
theorem JZ (r : dh) (hb : bY r≤1073741824) : ev LI TT 201 [.agg (gZ .af r)] = some (.bool ((nE r)),[.dead]):=by
 rw [ay (b:=nM) (rs:=[.t 2]) (n:=1) rfl rfl]
 have hw : bY r = wL aJ r.fields + r.body.length:=rfl
 unfold nE
 have u1:=C5  r.fields (by omega)
 try simp at u1
 by_cases g1 : 100≤r.status
 rotate_left
 ·simp -implicitDefEqProofs [nM,u1,eq_false g1]
 by_cases g2 : r.status≤599
 rotate_left
 ·simp -implicitDefEqProofs [nM,u1,eq_true g1,eq_false g2]
 by_cases g3 : jX r.fields = true
 rotate_left
 ·simp -implicitDefEqProofs [nM,u1,eq_true g1,eq_true g2,g3]
 simp -implicitDefEqProofs [nM,u1,eq_true g1,eq_true g2,g3]
 all_goals (repeat' split) <;> first | rfl | omega | (simp_all; done) | (simp_all; omega) | skip
theorem IP (r : dh) (hb : bY r≤1073741824) : ev LI TT 251 [.agg (gZ .af r)] = some (.bool ((nE r)),[.dead]):=by
 rw [ay (b:=mU) (rs:=[.t 2]) (n:=1) rfl rfl]
 have hw : bY r = wL aJ r.fields + r.body.length:=rfl
 unfold nE
 have u1:=CQ  r.fields (by omega)
 try simp at u1
 by_cases g1 : 100≤r.status
 rotate_left
 ·simp -implicitDefEqProofs [mU,u1,eq_false g1]
 by_cases g2 : r.status≤599
 rotate_left
 ·simp -implicitDefEqProofs [mU,u1,eq_true g1,eq_false g2]
 by_cases g3 : (r.body.length : Int)≤120
 rotate_left
 ·simp -implicitDefEqProofs [mU,u1,eq_true g1,eq_true g2,eq_false g3]
 simp -implicitDefEqProofs [mU,u1,eq_true g1,eq_true g2,eq_true g3]
 all_goals (repeat' split) <;> first | rfl | omega | (simp_all; done) | (simp_all; omega) | skip
end M
namespace M
open Go
theorem xJ (l : List Int) : iB (l.map eI) = true:=by induction l <;> simp_all [iB,scalar]
theorem u7 {c : Ca} : wL bg c.aH≤cr c:=by unfold cr; omega
theorem qn : ∀ l : List Fl,(l.flatMap (·.who)).length + l.length≤wL bg l
 | []=>by simp [wL]
 | f :: l=>by
  have ih:=qn l
  have h : bg f = bA f.q + wL wO f.who + bT f.old:=rfl
  have h2:=bt (w:=wO) f.who
  have h3 : wL bg (f :: l) = bg f + 1 + wL bg l:=by simp only [wL,List.length_cons,List.map_cons,List.sum_cons]; omega
  rw [h3,List.flatMap_cons,List.length_append,List.length_cons]
  omega
theorem GC (l : List Fl) (i : Nat) (hl : i < l.length) : ((l.take i).flatMap (·.who)).length + (l[i]).who.length≤wL bg l:=by
 have h1:=qn l
 have h2 : l.flatMap (·.who) = (l.take i).flatMap (·.who) ++ (l.drop i).flatMap (·.who):=by rw [← List.flatMap_append,List.take_append_drop]
 have h3 : l.drop i = l[i] :: l.drop (i + 1):=List.drop_eq_getElem_cons hl
 rw [h2,h3,List.length_append,List.flatMap_cons,List.length_append] at h1
 omega
theorem H6 (c : Ca) (hc : cr c≤100000000) : aE (ai (ev LI TT) (ak TT) tQ) [(1,.ptr .own (cg .af c)),(3,.row .own 1 (([]).map eI)),(4,.int .i64 0)] = some (.exit 0,[(1,.ptr .own (cg .af c)),(3,.row .own 1 ((((c.aH).flatMap (fun x=>x.who))).map eI)),(4,.int .i64 (c.aH).length),(10,.bool false)]):=by
 refine nv (f:=ai (ev LI TT) (ak TT) tQ) (c.aH) (fun x=>x.who) (fun i out=>[(1,.ptr .own (cg .af c)),(3,.row .own 1 ((out).map eI)),(4,.int .i64 i)]) (fun out=>[(1,.ptr .own (cg .af c)),(3,.row .own 1 ((out).map eI)),(4,.int .i64 (c.aH).length),(10,.bool false)]) (fun i b out hi hl hout=>?_) (fun out hout=>?_)
 ·have hw:=aL i (by have:=qn c.aH; have:=u7 (c:=c); omega)
  obtain ⟨_,rfl⟩:=List.getElem?_eq_some_iff.1 hi
  have EH:=u7 (c:=c)
  have ON:=GC c.aH i hl
  have hlz : (out.length + (c.aH[i]).who.length) * 8≤140737488355328:=by subst hout; omega
  simp -implicitDefEqProofs [tQ,B5,hl,hw,hlz,fm,xJ]
 ·simp -implicitDefEqProofs [tQ,B5]
theorem J2 (c : Ca) (hc : cr c≤100000000) : ev LI TT 114 [.agg (cg .af c)] = some (.row .own 1 ((c.aH.flatMap (fun x=>x.who)).map eI),[.dead]):=by
 rw [ay (b:=xD) (rs:=[.t 2]) (n:=1) rfl rfl]
 have u1:=H6  c hc
 try simp at u1
 simp -implicitDefEqProofs [xD,u1]
 all_goals (repeat' split) <;> first | rfl | omega | (simp_all; done) | (simp_all; omega) | skip
theorem G6 (l : List Fl) (hc : wL bg l≤100000000) : aE (ai (ev LI TT) (ak TT) rQ) [(0,.row .af 13 (l.map (aP .af))),(3,.row .own 1 (([]).map eI)),(6,.row .af 13 (l.map (aP .af))),(7,.int .i64 l.length),(8,.int .i64 0)] = some (.exit 0,[(0,.row .af 13 (l.map (aP .af))),(3,.row .own 1 ((((l).flatMap (fun x=>x.who))).map eI)),(6,.row .af 13 (l.map (aP .af))),(7,.int .i64 l.length),(8,.int .i64 (l).length),(9,.bool false)]):=by
 refine nv (f:=ai (ev LI TT) (ak TT) rQ) (l) (fun x=>x.who) (fun i out=>[(0,.row .af 13 (l.map (aP .af))),(3,.row .own 1 ((out).map eI)),(6,.row .af 13 (l.map (aP .af))),(7,.int .i64 l.length),(8,.int .i64 i)]) (fun out=>[(0,.row .af 13 (l.map (aP .af))),(3,.row .own 1 ((out).map eI)),(6,.row .af 13 (l.map (aP .af))),(7,.int .i64 l.length),(8,.int .i64 (l).length),(9,.bool false)]) (fun i b out hi hl hout=>?_) (fun out hout=>?_)
 ·have hw:=aL i (by have:=qn l; omega)
  obtain ⟨_,rfl⟩:=List.getElem?_eq_some_iff.1 hi
  have ON:=GC l i hl
  have hlz : (out.length + (l[i]).who.length) * 8≤140737488355328:=by subst hout; omega
  simp -implicitDefEqProofs [rQ,AD,hl,hw,hlz,fm,xJ]
 ·simp -implicitDefEqProofs [rQ,AD]
theorem I0 (l : List Fl) (hc : wL bg l≤100000000) : ev LI TT 115 [.row .af 13 (l.map (aP .af))] = some (.row .own 1 ((l.flatMap (fun x=>x.who)).map eI),[.dead]):=by
 rw [ay (b:=vW) (rs:=[.t 2]) (n:=1) rfl rfl]
 have u1:=G6  l hc
 try simp at u1
 simp -implicitDefEqProofs [vW,u1]
 all_goals (repeat' split) <;> first | rfl | omega | (simp_all; done) | (simp_all; omega) | skip
end M
namespace M
open Go
theorem ug (s : ah) : (ep s).length≤s.length + 1:=by
 unfold ep
 have h1:=List.length_filter_le (fun w : ah=>decide (w≠[])) ((cl 44 s).map dD)
 have h2:=Ga 44 s
 simp only [List.length_map] at h1
 omega
theorem ya (s : ah) : ∀ w∈ep s,w.length≤s.length:=by
 intro w hw
 unfold ep at hw
 obtain ⟨x,hx,rfl⟩:=List.mem_map.1 (List.mem_filter.1 hw).1
 have h1:=Gb 44 s x hx
 have h2:=Gq x
 omega
theorem HZ (ws : List ah) (hl0 : ws.length≤1073741825) (hb : ∀ w∈ws,w.length≤1073741824) : aE (ai (ev LI TT) (ak TT) tP) [(5,.row .own 1 ((fF br ws 0).map eS)),(6,.int .i64 0)] = some (.exit 0,[(5,.row .own 1 ((fF br ws (ws).length).map eS)),(6,.int .i64 (ws).length),(17,.bool false)]):=by
 refine iX (f:=ai (ev LI TT) (ak TT) tP) (ws) (fun i=>[(5,.row .own 1 ((fF br ws i).map eS)),(6,.int .i64 i)]) _ (fun i b hi hl=>?_) ?_
 ·have hw:=aL i (by first | omega | (simp at hl; omega))
  obtain ⟨_,rfl⟩:=List.getElem?_eq_some_iff.1 hi
  have h1:=Pm br ws i hl
  have h2:=Pn br ws i hl
  have u1:=C7  ws[i] (hb _ (List.getElem_mem hl))
  try simp at u1
  simp -implicitDefEqProofs [tP,B4,hl,hw,u1,h1,h2,rowAt,-List.map_set]
 ·simp -implicitDefEqProofs [tP,B4,rowAt]
theorem J1 (fs : List aK) (hb : wL aJ fs≤1073741824) : ev LI TT 203 [.row .af 2 (fs.map aG)] = some (.row .own 1 ((jO fs).map eS),[.dead]):=by
 rw [ay (b:=xC) (rs:=[.t 2]) (n:=1) rfl rfl]
 have hfl:=bt (w:=aJ) fs
 have hg:=qQ fs fU
 have u1:=C6  fs fU (by omega)
 try simp at u1
 have u2:=C9  ((di fs fU).getD []) (by omega)
 try simp at u2
 have u3:=HZ  (ep ((di fs fU).getD [])) (by have:=ug ((di fs fU).getD []); omega) (fun w hw=>by have:=ya _ w hw; omega)
 try simp at u3
 rw [Po,Pj,show (ep ((di fs fU).getD [])).map br = jO fs from rfl] at u3
 simp -implicitDefEqProofs [xC,u1,u2,u3]
 all_goals (repeat' split) <;> first | rfl | omega | (simp_all; done) | (simp_all; omega) | skip
theorem GX (ws : List ah) (hl0 : ws.length≤1073741825) (hb : ∀ w∈ws,w.length≤1073741824) : aE (ai (ev LI TT) (ak TT) rM) [(5,.row .own 1 (([]).map eS)),(14,.row .own 1 (ws.map eS)),(15,.int .i64 ws.length),(16,.int .i64 0)] = some (.exit 0,[(5,.row .own 1 ((((ws).flatMap (fun w=>[br w]))).map eS)),(14,.row .own 1 (ws.map eS)),(15,.int .i64 ws.length),(16,.int .i64 (ws).length),(17,.bool false)]):=by
 refine nv (f:=ai (ev LI TT) (ak TT) rM) (ws) (fun w=>[br w]) (fun i out=>[(5,.row .own 1 ((out).map eS)),(14,.row .own 1 (ws.map eS)),(15,.int .i64 ws.length),(16,.int .i64 i)]) (fun out=>[(5,.row .own 1 ((out).map eS)),(14,.row .own 1 (ws.map eS)),(15,.int .i64 ws.length),(16,.int .i64 (ws).length),(17,.bool false)]) (fun i b out hi hl hout=>?_) (fun out hout=>?_)
 ·have hw:=aL i (by first | omega | (simp at hl; omega))
  obtain ⟨_,rfl⟩:=List.getElem?_eq_some_iff.1 hi
  have hlo : out.length = i:=by rw [hout]; exact D8 _ _ _ (by omega)
  have hlz : (i + 1) * 16≤140737488355328:=by omega
  have u1:=CS  ws[i] (hb _ (List.getElem_mem hl))
  try simp at u1
  simp -implicitDefEqProofs [rM,Ay,hl,hw,u1,hlo,hlz,fm]
 ·simp -implicitDefEqProofs [rM,Ay]
theorem IW (fs : List aK) (hb : wL aJ fs≤1073741824) : ev LI TT 272 [.row .af 2 (fs.map aG)] = some (.row .own 1 ((jO fs).map eS),[.dead]):=by
 rw [ay (b:=vL) (rs:=[.t 2]) (n:=1) rfl rfl]
 have hfl:=bt (w:=aJ) fs
 have hg:=qQ fs fU
 have u1:=CR  fs fU (by omega)
 try simp at u1
 have u2:=CV  ((di fs fU).getD []) (by omega)
 try simp at u2
 have u3:=GX  (ep ((di fs fU).getD [])) (by have:=ug ((di fs fU).getD []); omega) (fun w hw=>by have:=ya _ w hw; omega)
 try simp at u3
 rw [zz,show (ep ((di fs fU).getD [])).map br = jO fs from rfl] at u3
 simp -implicitDefEqProofs [vL,u1,u2,u3]
 all_goals (repeat' split) <;> first | rfl | omega | (simp_all; done) | (simp_all; omega) | skip
theorem Gz (fs : List aK) : (jO fs).length≤wL aJ fs + 1:=by
 have h1:=ug ((di fs fU).getD [])
 have h2:=qQ fs fU
 simp [jO]; omega
end M
namespace M
open Go
theorem Ie (ps : List (ah×ah)) (hb : ps.length≤9223372036854775807) : aE (ai (ev LI TT) (ak TT) uk) [(0,.row .af 1 (ps.map fun x=>eS x.1)),(1,.row .af 1 (ps.map fun x=>eS x.2)),(12,.int .i64 ps.length),(13,.int .i64 0)] = if aF bE (ps) = true then some (.exit 0,[(0,.row .af 1 (ps.map fun x=>eS x.1)),(1,.row .af 1 (ps.map fun x=>eS x.2)),(12,.int .i64 ps.length),(13,.int .i64 ps.length),(14,.bool false)]) else some (.ret,[(4,.bool false)]):=by
 refine cj (f:=ai (ev LI TT) (ak TT) uk) (ps) (fun i=>[(0,.row .af 1 (ps.map fun x=>eS x.1)),(1,.row .af 1 (ps.map fun x=>eS x.2)),(12,.int .i64 ps.length),(13,.int .i64 i)]) bE _ _ (fun i b hi hl=>?_) ?_
 ·have hw:=aL i (by first | omega | (simp at hl; omega))
  obtain ⟨_,rfl⟩:=List.getElem?_eq_some_iff.1 hi
  simp -implicitDefEqProofs [uk,Cv,hl,hw,bE]
  first | done | (split <;> simp_all)
 ·simp -implicitDefEqProofs [uk,Cv]
theorem Ka (a b : List ah) (hb : a.length≤9223372036854775807) : ev LI TT 243 [.row .af 1 (a.map eS),.row .af 1 (b.map eS)] = some (.bool (decide (a = b)),[.dead,.dead]):=by
 rw [ay (b:=yc) (rs:=[.t 4]) (n:=2) rfl rfl]
 simp -implicitDefEqProofs [yc]
 by_cases h : a.length = b.length
 ·obtain ⟨ps,rfl,rfl⟩:=iD h
  have h1:=Ie  ps (by simpa using hb)
  have h2:=gU ps
  simp at h1
  cases h3 : aF bE ps <;> rw [h3] at h1 h2 <;> simp [h1,Function.comp_def,← h2]
 ·have : ¬ a = b:=fun e=>h (by rw [e])
  simp [this]
  omega
theorem GM : ∀ {a b : List ah},(∀ x∈a.zip b,¬ (decide (x.1≠x.2)) = true)→a.length = b.length→a = b
 | [],[],_,_=>rfl
 | x :: a,y :: b,h,hl=>by
  have h1:=h (x,y) (by simp)
  simp at h1
  have h2 : a = b:=GM (fun z hz=>h z (by simp only [List.zip_cons_cons]; exact List.mem_cons_of_mem _ hz)) (by simpa using hl)
  rw [h1,h2]
theorem Ur {a b : List ah} {x : ah×ah} (hx : x∈a.zip b) (h : x.1≠x.2) : a≠b:=by
 rintro rfl
 have : ∀ {l : List ah} {x : ah×ah},x∈l.zip l→x.1 = x.2:=by
  intro l
  induction l with
  | nil=>intro x h; simp at h
  | cons y l ih =>
   intro x h
   simp only [List.zip_cons_cons,List.mem_cons] at h
   rcases h with rfl | h
   ·rfl
   ·exact ih h
 exact h (this hx)
theorem Ia (a b : List ah) (hb : a.length≤9223372036854775807) (hY : b.length≤9223372036854775807) : aE (ai (ev LI TT) (ak TT) p8) [(0,.row .af 1 (a.map eS)),(1,.row .af 1 (b.map eS)),(5,.int .i64 0)] = (cX (fun x=>decide (x.1≠x.2)) 0 (a.zip b)).elim (some (.exit 0,[(0,.row .af 1 (a.map eS)),(1,.row .af 1 (b.map eS)),(5,.int .i64 (a.zip b).length),(15,.bool false)])) fun x=>some (.ret,(fun (i : Nat) b=>[(4,.bool false)]) x.1 x.2):=by
 refine sQ (f:=ai (ev LI TT) (ak TT) p8) (a.zip b) (fun i=>[(0,.row .af 1 (a.map eS)),(1,.row .af 1 (b.map eS)),(5,.int .i64 i)]) (fun x=>decide (x.1≠x.2)) (fun (i : Nat) b=>[(4,.bool false)]) _ (fun i b hi hl=>?_) ?_
 ·have hw:=aL i (by first | omega | (simp at hl; omega))
  obtain ⟨_,rfl⟩:=List.getElem?_eq_some_iff.1 hi
  have ha : i < a.length:=by simp at hl; omega
  have hb' : i < b.length:=by simp at hl; omega
  simp -implicitDefEqProofs [p8,xH,hl,hw,ha,hb']
 ·have hz : (a.zip b).length = min a.length b.length:=by simp
  rw [hz]
  by_cases hh : a.length≤b.length
  ·rw [Nat.min_eq_left hh]; simp -implicitDefEqProofs [p8,xH]
  have h1 : b.length≤a.length:=by omega
  have h2 : (b.length : Int) < a.length:=by omega
  have h3 : b.length < a.length:=by omega
  rw [Nat.min_eq_right h1]
  simp -implicitDefEqProofs [p8,xH,h2,h3]
theorem J5 (a b : List ah) (hb : a.length≤9223372036854775807) (hY : b.length≤9223372036854775807) : ev LI TT 175 [.row .af 1 (a.map eS),.row .af 1 (b.map eS)] = some (.bool (decide (a = b)),[.dead,.dead]):=by
 rw [ay (b:=p9) (rs:=[.t 4]) (n:=2) rfl rfl]
 have h:=Ia  a b hb hY
 cases g : cX (fun x : ah×ah=>decide (x.1≠x.2)) 0 (a.zip b) with
 | some x =>
  obtain ⟨i,x⟩:=x
  obtain ⟨_,h1,h2⟩:=oA g
  have h3 : ¬ a = b:=Ur (List.mem_of_getElem? h1) (by simpa using h2)
  rw [g] at h; simp only [Option.elim] at h; simp -implicitDefEqProofs [p9,h,h3]
 | none =>
 have h1:=zx.1 g
 rw [g] at h
 simp only [Option.elim] at h
 try simp at h
 by_cases hl : a.length = b.length
 ·have h2:=GM h1 hl
  subst h2
  try simp at h
  simp -implicitDefEqProofs [p9,h]
 have h3 : ¬ a = b:=fun e=>hl (by rw [e])
 have h4 : ¬ (a.length : Int) = b.length:=by omega
 simp -implicitDefEqProofs [p9,h,h3,h4]
 all_goals (repeat' split) <;> first | rfl | omega | (simp_all; done) | (simp_all; omega) | skip
end M
namespace M
open Go
theorem HQ (o : Ob) (hb : wL wS o.values≤1073741824) : aE (ai (ev LI TT) (ak TT) tI) [(1,.ptr .own (eE .af o)),(3,.int .i64 0)] = if aF gx (o.values) = true then some (.exit 0,[(1,.ptr .own (eE .af o)),(3,.int .i64 (o.values).length),(49,.bool false)]) else some (.ret,[(2,.bool false)]):=by
 refine cj (f:=ai (ev LI TT) (ak TT) tI) (o.values) (fun i=>[(1,.ptr .own (eE .af o)),(3,.int .i64 i)]) gx _ _ (fun i b hi hl=>?_) ?_
 ·have hw:=aL i (by have:=bt (w:=wS) o.values; omega)
  obtain ⟨_,rfl⟩:=List.getElem?_eq_some_iff.1 hi
  have hm:=x9 (List.getElem_mem hl)
  have u1:=yS  o.values[i] (by omega)
  try simp at u1
  simp -implicitDefEqProofs [tI,BW,hl,hw,u1]
  all_goals (repeat' split) <;> first | rfl | omega | (simp_all; done) | (simp_all; omega) | skip
 ·simp -implicitDefEqProofs [tI,BW]
theorem C8 (o : Ob) (hb : bT o≤1073741824) : ev LI TT 108 [.agg (eE .af o)] = some (.bool ((jb o)),[.dead]):=by
 rw [ay (b:=iz) (rs:=[.t 2]) (n:=1) rfl rfl]
 have hw : bT o = o.path.length + wL wS o.names + wL wS o.values + bY o.resp:=rfl
 have OL : bY o.resp = wL aJ o.resp.fields + o.resp.body.length:=rfl
 have hn:=bt (w:=wS) o.names
 have hv:=bt (w:=wS) o.values
 have hvl:=Gz o.resp.fields
 unfold jb Bx
 have u1:=JZ  o.resp (by omega)
 try simp at u1
 have u2:=yT  o.path (by omega)
 try simp at u2
 have u3:=J6  o.names (by omega) (fun w hw=>by have:=x9 hw; omega)
 try simp at u3
 have u4:=J1  o.resp.fields (by omega)
 try simp at u4
 have u5:=J5  o.names (jO o.resp.fields) (by omega) (by omega)
 try simp at u5
 have u6:=HQ  o (by omega)
 try simp at u6
 by_cases g1 : nE o.resp = true
 rotate_left
 ·simp -implicitDefEqProofs [iz,u1,u2,u3,u4,u5,u6,g1]
 by_cases g2 : fV o.path = true
 rotate_left
 ·simp -implicitDefEqProofs [iz,u1,u2,u3,u4,u5,u6,g1,g2]
 by_cases g3 : 0≤o.t
 rotate_left
 ·simp -implicitDefEqProofs [iz,u1,u2,u3,u4,u5,u6,g1,g2,eq_false g3]
 by_cases g4 : o.t≤1000000
 rotate_left
 ·simp -implicitDefEqProofs [iz,u1,u2,u3,u4,u5,u6,g1,g2,eq_true g3,eq_false g4]
 by_cases g5 : aF ek o.names = true
 rotate_left
 ·simp -implicitDefEqProofs [iz,u1,u2,u3,u4,u5,u6,g1,g2,eq_true g3,eq_true g4,g5]
 by_cases g6 : (o.names.length : Int)≤4
 rotate_left
 ·simp -implicitDefEqProofs [iz,u1,u2,u3,u4,u5,u6,g1,g2,eq_true g3,eq_true g4,g5,eq_false g6]
 by_cases g7 : o.names = jO o.resp.fields
 rotate_left
 ·simp -implicitDefEqProofs [iz,u1,u2,u3,u4,u5,u6,g1,g2,eq_true g3,eq_true g4,g5,eq_true g6,eq_false g7]
 by_cases g8 : o.values.length = o.names.length
 rotate_left
 ·have fP : ¬ (o.values.length : Int) = o.names.length:=by omega
  simp -implicitDefEqProofs [iz,u1,u2,u3,u4,u5,u6,g1,g2,eq_true g3,eq_true g4,g5,eq_true g6,eq_true g7,eq_false g8,eq_false fP]
 have fP : (o.values.length : Int) = o.names.length:=by omega
 simp -implicitDefEqProofs [iz,u1,u2,u3,u4,u5,u6,g1,g2,eq_true g3,eq_true g4,g5,eq_true g6,eq_true g7,eq_true g8,eq_true fP]
 all_goals (repeat' split) <;> first | rfl | omega | (simp_all; done) | (simp_all; omega) | skip
theorem GS (o : Ob) (hb : wL wS o.values≤1073741824) : aE (ai (ev LI TT) (ak TT) rJ) [(1,.ptr .own (eE .af o)),(5,.az 1 [] 0 2),(6,.row .af 1 (o.values.map eS)),(7,.int .i64 o.values.length),(8,.int .i64 0)] = if aF gx (o.values) = true then some (.exit 0,[(1,.ptr .own (eE .af o)),(5,.az 1 [] 0 2),(6,.row .af 1 (o.values.map eS)),(7,.int .i64 o.values.length),(8,.int .i64 (o.values).length),(9,.bool false)]) else some (.ret,[(2,.bool false)]):=by
 refine cj (f:=ai (ev LI TT) (ak TT) rJ) (o.values) (fun i=>[(1,.ptr .own (eE .af o)),(5,.az 1 [] 0 2),(6,.row .af 1 (o.values.map eS)),(7,.int .i64 o.values.length),(8,.int .i64 i)]) gx _ _ (fun i b hi hl=>?_) ?_
 ·have hw:=aL i (by have:=bt (w:=wS) o.values; omega)
  obtain ⟨_,rfl⟩:=List.getElem?_eq_some_iff.1 hi
  have hm:=x9 (List.getElem_mem hl)
  have u1:=yA  o.values[i] (by omega)
  try simp at u1
  simp -implicitDefEqProofs [rJ,Au,hl,hw,u1]
  all_goals (repeat' split) <;> first | rfl | omega | (simp_all; done) | (simp_all; omega) | skip
 ·simp -implicitDefEqProofs [rJ,Au]
theorem CT (o : Ob) (hb : bT o≤1073741824) : ev LI TT 205 [.agg (eE .af o)] = some (.bool ((jb o)),[.dead]):=by
 rw [ay (b:=ij) (rs:=[.t 2]) (n:=1) rfl rfl]
 have hw : bT o = o.path.length + wL wS o.names + wL wS o.values + bY o.resp:=rfl
 have OL : bY o.resp = wL aJ o.resp.fields + o.resp.body.length:=rfl
 have hn:=bt (w:=wS) o.names
 have hv:=bt (w:=wS) o.values
 have hvl:=Gz o.resp.fields
 unfold jb Bx
 have u1:=IP  o.resp (by omega)
 try simp at u1
 have u2:=yB  o.path (by omega)
 try simp at u2
 have u3:=IZ  o.names (by omega) (fun w hw=>by have:=x9 hw; omega)
 try simp at u3
 have u4:=IW  o.resp.fields (by omega)
 try simp at u4
 have u5:=Ka  o.names (jO o.resp.fields) (by omega)
 try simp at u5
 have u6:=GS  o (by omega)
 try simp at u6
 by_cases g1 : aF gx o.values = true
 rotate_left
 ·simp -implicitDefEqProofs [ij,u1,u2,u3,u4,u5,u6,g1]
 by_cases g2 : fV o.path = true
 rotate_left
 ·simp -implicitDefEqProofs [ij,u1,u2,u3,u4,u5,u6,g1,g2]
 by_cases g3 : 0≤o.t
 rotate_left
 ·simp -implicitDefEqProofs [ij,u1,u2,u3,u4,u5,u6,g1,g2,eq_false g3]
 by_cases g4 : o.t≤1000000
 rotate_left
 ·simp -implicitDefEqProofs [ij,u1,u2,u3,u4,u5,u6,g1,g2,eq_true g3,eq_false g4]
 by_cases g8 : o.values.length = o.names.length
 rotate_left
 ·have fP : ¬ (o.values.length : Int) = o.names.length:=by omega
  simp -implicitDefEqProofs [ij,u1,u2,u3,u4,u5,u6,g1,g2,eq_true g3,eq_true g4,eq_false g8,eq_false fP]
 have fP : (o.values.length : Int) = o.names.length:=by omega
 by_cases h5 : aF ek o.names = true
 rotate_left
 ·simp -implicitDefEqProofs [ij,u1,u2,u3,u4,u5,u6,g1,g2,eq_true g3,eq_true g4,eq_true g8,eq_true fP,h5]
 by_cases h6 : (o.names.length : Int)≤4
 rotate_left
 ·simp -implicitDefEqProofs [ij,u1,u2,u3,u4,u5,u6,g1,g2,eq_true g3,eq_true g4,eq_true g8,eq_true fP,h5,eq_false h6]
 by_cases h7 : nE o.resp = true
 rotate_left
 ·simp -implicitDefEqProofs [ij,u1,u2,u3,u4,u5,u6,g1,g2,eq_true g3,eq_true g4,eq_true g8,eq_true fP,h5,eq_true h6,h7]
 simp -implicitDefEqProofs [ij,u1,u2,u3,u4,u5,u6,g1,g2,eq_true g3,eq_true g4,eq_true g8,eq_true fP,h5,eq_true h6,h7]
 all_goals (repeat' split) <;> first | rfl | omega | (simp_all; done) | (simp_all; omega) | skip
theorem JR (b : Bn) (hb : bl b≤1073741824) : ev LI TT 94 [.agg (bQ b)] = some (.bool ((jm b)),[.dead]):=by
 rw [ay (b:=kJ) (rs:=[.t 2]) (n:=1) rfl rfl]
 have hw : bl b = b.a.length + b.b.length:=rfl
 unfold jm
 have u1:=yT  b.a (by omega)
 try simp at u1
 have u2:=yQ  b.a (by omega)
 try simp at u2
 have u3:=yS  b.b (by omega)
 try simp at u3
 by_cases g1 : 0≤b.t
 rotate_left
 ·simp -implicitDefEqProofs [kJ,u1,u2,u3,eq_false g1]
 by_cases g2 : b.t≤1000000
 rotate_left
 ·simp -implicitDefEqProofs [kJ,u1,u2,u3,eq_true g1,eq_false g2]
 by_cases h1 : b.kind = 1
 ·by_cases h2 : fV b.a = true <;> simp -implicitDefEqProofs [kJ,u1,u2,u3,eq_true g1,eq_true g2,h1,h2]
 by_cases h2 : b.kind = 2
 ·by_cases h3 : fV b.a = true <;> simp -implicitDefEqProofs [kJ,u1,u2,u3,eq_true g1,eq_true g2,h2,h3]
 by_cases h3 : b.kind = 3
 ·by_cases h4 : ek b.a = true <;> simp -implicitDefEqProofs [kJ,u1,u2,u3,eq_true g1,eq_true g2,h3,h4]
 simp -implicitDefEqProofs [kJ,u1,u2,u3,eq_true g1,eq_true g2,h1,h2,h3]
 all_goals (repeat' split) <;> first | rfl | omega | (simp_all; done) | (simp_all; omega) | skip
theorem IE (b : Bn) (hb : bl b≤1073741824) : ev LI TT 178 [.agg (bQ b)] = some (.bool ((jm b)),[.dead]):=by
 rw [ay (b:=ki) (rs:=[.t 2]) (n:=1) rfl rfl]
 have hw : bl b = b.a.length + b.b.length:=rfl
 unfold jm
 have u1:=yB  b.a (by omega)
 try simp at u1
 have u2:=yz  b.a (by omega)
 try simp at u2
 have u3:=yA  b.b (by omega)
 try simp at u3
 by_cases g1 : 0≤b.t
 rotate_left
 ·simp -implicitDefEqProofs [ki,u1,u2,u3,eq_false g1]
 by_cases g2 : b.t≤1000000
 rotate_left
 ·simp -implicitDefEqProofs [ki,u1,u2,u3,eq_true g1,eq_false g2]
 by_cases h1 : b.kind = 1
 ·by_cases h2 : fV b.a = true <;> simp -implicitDefEqProofs [ki,u1,u2,u3,eq_true g1,eq_true g2,h1,h2]
 by_cases h2 : b.kind = 2
 ·by_cases h3 : fV b.a = true <;> simp -implicitDefEqProofs [ki,u1,u2,u3,eq_true g1,eq_true g2,h2,h3]
 by_cases h3 : b.kind = 3
 ·by_cases h4 : ek b.a = true <;> simp -implicitDefEqProofs [ki,u1,u2,u3,eq_true g1,eq_true g2,h3,h4]
 simp -implicitDefEqProofs [ki,u1,u2,u3,eq_true g1,eq_true g2,h1,h2,h3]
 all_goals (repeat' split) <;> first | rfl | omega | (simp_all; done) | (simp_all; omega) | skip
@[simp] theorem UQ (t : Int) : ev LI TT 219 [.int .i64 t] = some (.bool ((decide (0≤t∧t≤19))),[.dead]):=by
 rw [ay (b:=vS) (rs:=[.t 2]) (n:=1) rfl rfl]
 simp -implicitDefEqProofs [vS]
 all_goals (repeat' split) <;> first | rfl | omega | (simp_all; done) | (simp_all; omega) | skip
@[simp] theorem UR (t : Int) : ev LI TT 179 [.int .i64 t] = some (.bool ((decide (5≤t∧t≤19))),[.dead]):=by
 rw [ay (b:=vT) (rs:=[.t 2]) (n:=1) rfl rfl]
 simp -implicitDefEqProofs [vT]
 all_goals (repeat' split) <;> first | rfl | omega | (simp_all; done) | (simp_all; omega) | skip
theorem HJ (d : eu) (hb : d.pending.length≤9223372036854775807) : aE (ai (ev LI TT) (ak TT) tC) [(1,.ptr .own (ga .af d)),(3,.int .i64 0)] = if aF nC (d.pending) = true then some (.exit 0,[(1,.ptr .own (ga .af d)),(3,.int .i64 (d.pending).length),(8,.bool false)]) else some (.ret,[(2,.bool false)]):=by
 refine cj (f:=ai (ev LI TT) (ak TT) tC) (d.pending) (fun i=>[(1,.ptr .own (ga .af d)),(3,.int .i64 i)]) nC _ _ (fun i b hi hl=>?_) ?_
 ·have hw:=aL i (by first | omega | (simp at hl; omega))
  obtain ⟨_,rfl⟩:=List.getElem?_eq_some_iff.1 hi
  simp -implicitDefEqProofs [tC,BS,hl,hw,nC]
  all_goals (repeat' split) <;> first | rfl | omega | (simp_all; done) | (simp_all; omega) | skip
 ·simp -implicitDefEqProofs [tC,BS]
theorem JV (d : eu) (hb : d.pending.length≤9223372036854775807) : ev LI TT 119 [.agg (ga .af d)] = some (.bool ((nB d)),[.dead]):=by
 rw [ay (b:=xp) (rs:=[.t 2]) (n:=1) rfl rfl]
 unfold nB
 have u1:=HJ  d hb
 try simp at u1
 simp -implicitDefEqProofs [xp,u1]
 all_goals (repeat' split) <;> first | rfl | omega | (simp_all; done) | (simp_all; omega) | skip
theorem GO (d : eu) (hb : d.pending.length≤9223372036854775807) : aE (ai (ev LI TT) (ak TT) rE) [(1,.ptr .own (ga .af d)),(5,.az 1 [] 0 1),(6,.row .af 2 (d.pending.map eW)),(7,.int .i64 d.pending.length),(8,.int .i64 0)] = if aF nC (d.pending) = true then some (.exit 0,[(1,.ptr .own (ga .af d)),(5,.az 1 [] 0 1),(6,.row .af 2 (d.pending.map eW)),(7,.int .i64 d.pending.length),(8,.int .i64 (d.pending).length),(9,.bool false)]) else some (.ret,[(2,.bool false)]):=by
 refine cj (f:=ai (ev LI TT) (ak TT) rE) (d.pending) (fun i=>[(1,.ptr .own (ga .af d)),(5,.az 1 [] 0 1),(6,.row .af 2 (d.pending.map eW)),(7,.int .i64 d.pending.length),(8,.int .i64 i)]) nC _ _ (fun i b hi hl=>?_) ?_
 ·have hw:=aL i (by first | omega | (simp at hl; omega))
  obtain ⟨_,rfl⟩:=List.getElem?_eq_some_iff.1 hi
  simp -implicitDefEqProofs [rE,Am,hl,hw,nC]
  all_goals (repeat' split) <;> first | rfl | omega | (simp_all; done) | (simp_all; omega) | skip
 ·simp -implicitDefEqProofs [rE,Am]
theorem IK (d : eu) (hb : d.pending.length≤9223372036854775807) : ev LI TT 128 [.agg (ga .af d)] = some (.bool ((nB d)),[.dead]):=by
 rw [ay (b:=vB) (rs:=[.t 2]) (n:=1) rfl rfl]
 unfold nB
 have u1:=GO  d hb
 try simp at u1
 simp -implicitDefEqProofs [vB,u1]
 all_goals (repeat' split) <;> first | rfl | omega | (simp_all; done) | (simp_all; omega) | skip
end M
set_option maxHeartbeats 4000000
namespace M
open Go
end M
set_option maxHeartbeats 4000000
namespace M
open Go
structure Cc where
 ns : Bool
 nc : Bool
 pr : Bool
 mu : Bool
 ha : Bool
 yg : Int
@[simp] def dy (c : Cc) : List X:=[.bool c.ns,.bool c.nc,.bool c.pr,.bool c.mu,.bool c.ha,.int .i64 c.yg]
def cW : Cc:=⟨false,false,false,false,false,0⟩
def s6 : ah:=[110,111,45,115,116,111,114,101]
def s5 : ah:=[110,111,45,99,97,99,104,101]
def s7 : ah:=[112,114,105,118,97,116,101]
def sZ : ah:=[109,117,115,116,45,114,101,118,97,108,105,100,97,116,101]
def gM : ah:=[109,97,120,45,97,103,101,61]
def og (w : ah) : Option Nat:=if Lib.hasPrefix w gM = true then some ((cL (w.drop 8)).getD 0) else none
def jr (c : Cc) (w : ah) : Cc:=if w = s6 then { c with ns:=true } else if w = s5 then { c with nc:=true } else if w = s7 then { c with pr:=true } else if w = sZ then { c with mu:=true } else
 match og w with
 | some n=>{ c with ha:=true,yg:=if c.ha = true then min (n : Int) c.yg else n }
 | none=>c
def mB (v : ah) : Cc:=(ep v).foldl (fun c w=>jr c (br w)) cW
def oh (fs : List aK) : Cc:=mB ((di fs ja).getD [])
theorem Bz : (⟨#[110,111,45,115,116,111,114,101]⟩ : ByteArray) = ⟨s6.toArray⟩∧(⟨#[110,111,45,99,97,99,104,101]⟩ : ByteArray) = ⟨s5.toArray⟩∧(⟨#[112,114,105,118,97,116,101]⟩ : ByteArray) = ⟨s7.toArray⟩∧(⟨#[109,117,115,116,45,114,101,118,97,108,105,100,97,116,101]⟩ : ByteArray) = ⟨sZ.toArray⟩∧(⟨#[109,97,120,45,97,103,101,61]⟩ : ByteArray) = ⟨gM.toArray⟩:=⟨rfl,rfl,rfl,rfl,rfl⟩
theorem J4 (w : ah) (hb : w.length≤1073741824) : ev LI TT 255 [.str ⟨w.toArray⟩] = some (.au [.int .i64 ((((og w).getD 0 : Nat) : Int)),.bool ((og w).isSome)],[.dead]):=by
 rw [ay (b:=p7) (rs:=[.t 2,.t 3]) (n:=1) rfl rfl]
 have hp:=Lib.hasPrefix_of_take w gM
 have l8 : gM.length = 8:=rfl
 have z : gM.toArray.size = 8:=rfl
 obtain ⟨t1,t2,t3,t4,t5⟩:=Bz
 rw [l8] at hp
 unfold og
 by_cases g8 : w.length < 8
 ·have : Lib.hasPrefix w gM = false:=by rw [← hp]; simp; omega
  have fP : (w.length : Int) < 8:=by omega
  simp -implicitDefEqProofs [p7,t5,this,g8,fP,ByteArray.size,z,l8]
 have fP : ¬ (w.length : Int) < 8:=by omega
 have g9 : (8 : Int)≤w.length:=by omega
 have g10 : 8≤w.length:=by omega
 have g11 : decide (8≤w.length) = true:=by simp; omega
 rw [g11,Bool.true_and] at hp
 by_cases g : w.take 8 = gM
 rotate_left
 ·have : Lib.hasPrefix w gM = false:=by rw [← hp]; simpa using g
  simp -implicitDefEqProofs [p7,t5,this,g8,fP,g9,g10,ByteArray.size,z,l8,Lib.extract_mk,eq_false g]
 have : Lib.hasPrefix w gM = true:=by rw [← hp]; simpa using g
 have u1:=JX (w.drop 8) (by simp; omega)
 have hz : (w.drop 8).take (w.length - 8) = w.drop 8:=List.take_of_length_le (by simp)
 simp -implicitDefEqProofs [p7,t5,this,g8,fP,g9,g10,ByteArray.size,z,l8,Lib.extract_mk,eq_true g,u1,hz]
 all_goals (repeat' split) <;> first | rfl | omega | (simp_all; done) | (simp_all; omega) | skip
theorem HI (ws : List ah) (hl0 : ws.length≤1073741825) (hb : ∀ w∈ws,w.length≤1073741824) (g : Cc) : aE (ai (ev LI TT) (ak TT) jL) [(2,.ptr .own (dy cW)),(3,.ptr .own (dy g)),(4,.row .own 1 (ws.map eS)),(5,.int .i64 0)] = some (.exit 0,[(2,.ptr .own (dy cW)),(3,.ptr .own (dy ((ws).foldl (fun c w=>jr c (br w)) g))),(4,.row .own 1 (ws.map eS)),(5,.int .i64 (ws).length),(15,.bool false)]):=by
 refine Bq (f:=ai (ev LI TT) (ak TT) jL) (ws) (fun i (g : Cc)=>[(2,.ptr .own (dy cW)),(3,.ptr .own (dy g)),(4,.row .own 1 (ws.map eS)),(5,.int .i64 i)]) (fun c w=>jr c (br w)) (fun g=>[(2,.ptr .own (dy cW)),(3,.ptr .own (dy g)),(4,.row .own 1 (ws.map eS)),(5,.int .i64 (ws).length),(15,.bool false)]) (fun _ _=>True) g trivial (fun i b g hi hl _=>?_) (fun _ _ _ _ _=>trivial) (fun g _=>?_)
 ·have hw:=aL i (by first | omega | (simp at hl; omega))
  obtain ⟨_,rfl⟩:=List.getElem?_eq_some_iff.1 hi
  obtain ⟨t1,t2,t3,t4,t5⟩:=Bz
  have hx:=hb _ (List.getElem_mem hl)
  have v1:=C7 ws[i] hx
  have v2 : (br ws[i]).length≤1073741824:=by simp [br]; exact hx
  generalize br ws[i] = w at v1 v2
  have v3:=J4 w v2
  try simp at v1
  try simp at v3
  unfold jr
  by_cases g1 : w = s6
  ·simp -implicitDefEqProofs [jL,lZ,hl,hw,v1,v3,t1,eq_true g1,cW]
  by_cases g2 : w = s5
  ·simp -implicitDefEqProofs [jL,lZ,hl,hw,v1,v3,t1,t2,eq_false g1,eq_true g2,cW]
  by_cases g3 : w = s7
  ·simp -implicitDefEqProofs [jL,lZ,hl,hw,v1,v3,t1,t2,t3,eq_false g1,eq_false g2,eq_true g3,cW]
  by_cases g4 : w = sZ
  ·simp -implicitDefEqProofs [jL,lZ,hl,hw,v1,v3,t1,t2,t3,t4,eq_false g1,eq_false g2,eq_false g3,eq_true g4,cW]
  cases ha : og w with
  | none =>
   rw [ha] at v3
   simp at v3
   simp -implicitDefEqProofs [jL,lZ,hl,hw,v1,v3,t1,t2,t3,t4,eq_false g1,eq_false g2,eq_false g3,eq_false g4,cW]
  | some n =>
  rw [ha] at v3
  simp at v3
  cases gh : g.ha
  all_goals
  simp -implicitDefEqProofs [jL,lZ,hl,hw,v1,v3,t1,t2,t3,t4,eq_false g1,eq_false g2,eq_false g3,eq_false g4,gh,cW]
  all_goals (repeat' split) <;> first | rfl | omega | (simp_all; done) | (simp_all; omega) | skip
 ·simp -implicitDefEqProofs [jL,lZ]
theorem JU (v : ah) (hb : v.length≤1073741824) : ev LI TT 163 [.str ⟨v.toArray⟩] = some (.agg (dy (mB v)),[.dead]):=by
 rw [ay (b:=xo) (rs:=[.c 2 6 true 122]) (n:=1) rfl rfl]
 have hm:=ya v
 have hn:=ug v
 have u1:=C9  v hb
 try simp at u1
 have u2:=HI  (ep v) (by omega) (fun w hw=>by have:=hm w hw; omega) cW
 try simp at u2
 rw [show (ep v).foldl (fun c w=>jr c (br w)) cW = mB v from rfl] at u2
 simp [cW] at u2
 simp -implicitDefEqProofs [xo,u1,u2,cW]
 all_goals (repeat' split) <;> first | rfl | omega | (simp_all; done) | (simp_all; omega) | skip
theorem JT (fs : List aK) (hb : wL aJ fs≤1073741824) : ev LI TT 71 [.row .af 2 (fs.map aG)] = some (.agg (dy (oh fs)),[.dead]):=by
 rw [ay (b:=xm) (rs:=[.c 2 6 true 122]) (n:=1) rfl rfl]
 have hfl:=bt (w:=aJ) fs
 have hg:=qQ fs ja
 have t3 : (⟨#[99,97,99,104,101,45,99,111,110,116,114,111,108]⟩ : ByteArray) = ⟨ja.toArray⟩:=rfl
 have u1:=C6  fs ja (by omega)
 try simp at u1
 have u2:=JU  ((di fs ja).getD []) (by omega)
 try simp at u2
 rw [show mB ((di fs ja).getD []) = oh fs from rfl] at u2
 simp -implicitDefEqProofs [xm,u1,u2,t3]
 all_goals (repeat' split) <;> first | rfl | omega | (simp_all; done) | (simp_all; omega) | skip
theorem Kk {w : ah} (h : w = s6∨w = s5∨w = s7∨w = sZ) : Lib.hasPrefix w gM = false:=by
 rcases h with rfl | rfl | rfl | rfl <;> decide
theorem IJ (c : Cc) (w : ah) (hb : w.length≤1073741824) : ev LI TT 298 [.ptr .own (dy c),.str ⟨w.toArray⟩] = some (.au [],[.ptr .own (dy (jr c w)),.dead]):=by
 rw [ay (b:=kn) (rs:=[]) (n:=2) rfl rfl]
 obtain ⟨t1,t2,t3,t4,t5⟩:=Bz
 have v3:=Kf w gM (by omega)
 have hword:=Kk (w:=w)
 unfold jr
 by_cases g1 : w = s6
 ·rw [hword (Or.inl g1)] at v3
  simp -implicitDefEqProofs [kn,v3,t1,t5,eq_true g1]
 by_cases g2 : w = s5
 ·rw [hword (by simp [g2])] at v3
  simp -implicitDefEqProofs [kn,v3,t1,t2,t5,eq_false g1,eq_true g2]
 by_cases g3 : w = s7
 ·rw [hword (by simp [g3])] at v3
  simp -implicitDefEqProofs [kn,v3,t1,t2,t3,t5,eq_false g1,eq_false g2,eq_true g3]
 by_cases g4 : w = sZ
 ·rw [hword (by simp [g4])] at v3
  simp -implicitDefEqProofs [kn,v3,t1,t2,t3,t4,t5,eq_false g1,eq_false g2,eq_false g3,eq_true g4]
 unfold og
 cases hp : Lib.hasPrefix w gM
 ·rw [hp] at v3
  simp -implicitDefEqProofs [kn,v3,t1,t2,t3,t4,t5,eq_false g1,eq_false g2,eq_false g3,eq_false g4]
 rw [hp,show Lib.trimPrefix w gM = w.drop 8 by unfold Lib.trimPrefix; rw [hp]; rfl] at v3
 have v4:=IM (w.drop 8) (by simp; omega)
 try simp at v3
 try simp at v4
 generalize (cL (w.drop 8)).getD 0 = n at v4
 cases gh : c.ha
 all_goals
 simp -implicitDefEqProofs [kn,v3,v4,t1,t2,t3,t4,t5,eq_false g1,eq_false g2,eq_false g3,eq_false g4,gh]
 all_goals (repeat' split) <;> first | rfl | omega | (simp_all; done) | (simp_all; omega) | skip
theorem GN (ws : List ah) (hl0 : ws.length≤1073741825) (hb : ∀ w∈ws,w.length≤1073741824) (g : Cc) : aE (ai (ev LI TT) (ak TT) rD) [(2,.ptr .own (dy cW)),(3,.ptr .own (dy g)),(7,.row .own 1 (ws.map eS)),(8,.int .i64 ws.length),(9,.int .i64 0)] = some (.exit 0,[(2,.ptr .own (dy cW)),(3,.ptr .own (dy ((ws).foldl (fun c w=>jr c (br w)) g))),(7,.row .own 1 (ws.map eS)),(8,.int .i64 ws.length),(9,.int .i64 (ws).length),(10,.bool false)]):=by
 refine Bq (f:=ai (ev LI TT) (ak TT) rD) (ws) (fun i (g : Cc)=>[(2,.ptr .own (dy cW)),(3,.ptr .own (dy g)),(7,.row .own 1 (ws.map eS)),(8,.int .i64 ws.length),(9,.int .i64 i)]) (fun c w=>jr c (br w)) (fun g=>[(2,.ptr .own (dy cW)),(3,.ptr .own (dy g)),(7,.row .own 1 (ws.map eS)),(8,.int .i64 ws.length),(9,.int .i64 (ws).length),(10,.bool false)]) (fun _ _=>True) g trivial (fun i b g hi hl _=>?_) (fun _ _ _ _ _=>trivial) (fun g _=>?_)
 ·have hw:=aL i (by first | omega | (simp at hl; omega))
  obtain ⟨_,rfl⟩:=List.getElem?_eq_some_iff.1 hi
  have hx:=hb _ (List.getElem_mem hl)
  have v1:=CS ws[i] hx
  have v2 : (br ws[i]).length≤1073741824:=by simp [br]; exact hx
  have v3:=IJ g (br ws[i]) v2
  try simp at v1
  try simp at v3
  simp -implicitDefEqProofs [rD,Al,hl,hw,v1,v3,cW]
  all_goals (repeat' split) <;> first | rfl | omega | (simp_all; done) | (simp_all; omega) | skip
 ·simp -implicitDefEqProofs [rD,Al]
theorem II (v : ah) (hb : v.length≤1073741824) : ev LI TT 239 [.str ⟨v.toArray⟩] = some (.agg (dy (mB v)),[.dead]):=by
 rw [ay (b:=vA) (rs:=[.c 2 6 true 122]) (n:=1) rfl rfl]
 have hm:=ya v
 have hn:=ug v
 have u1:=CV  v hb
 try simp at u1
 have u2:=GN  (ep v) (by omega) (fun w hw=>by have:=hm w hw; omega) cW
 try simp at u2
 rw [show (ep v).foldl (fun c w=>jr c (br w)) cW = mB v from rfl] at u2
 simp [cW] at u2
 simp -implicitDefEqProofs [vA,u1,u2,cW]
 all_goals (repeat' split) <;> first | rfl | omega | (simp_all; done) | (simp_all; omega) | skip
theorem IG (fs : List aK) (hb : wL aJ fs≤1073741824) : ev LI TT 152 [.row .af 2 (fs.map aG)] = some (.agg (dy (oh fs)),[.dead]):=by
 rw [ay (b:=vz) (rs:=[.c 2 6 true 122]) (n:=1) rfl rfl]
 have hfl:=bt (w:=aJ) fs
 have hg:=qQ fs ja
 have t3 : (⟨#[99,97,99,104,101,45,99,111,110,116,114,111,108]⟩ : ByteArray) = ⟨ja.toArray⟩:=rfl
 have u1:=CR  fs ja (by omega)
 try simp at u1
 have u2:=II  ((di fs ja).getD []) (by omega)
 try simp at u2
 rw [show mB ((di fs ja).getD []) = oh fs from rfl] at u2
 simp -implicitDefEqProofs [vz,u1,u2,t3]
 all_goals (repeat' split) <;> first | rfl | omega | (simp_all; done) | (simp_all; omega) | skip
end M
set_option maxHeartbeats 4000000
namespace M
open Go
theorem yP (q : Rq) (hb : bA q≤1073741824) : ev LI TT 70 [.agg (eY .af q)] = some (.bool (jg q),[.dead]):=by
 rw [ay (b:=pY) (rs:=[.t 2]) (n:=1) rfl rfl]
 have vt : bA q = q.path.length + wL aJ q.fields + q.body.length:=rfl
 unfold jg
 have u1:=yT  q.path (by omega)
 try simp at u1
 have u2:=C5  q.fields (by omega)
 try simp at u2
 by_cases g1 : 1≤q.method
 rotate_left
 ·simp -implicitDefEqProofs [pY,u1,u2,eq_false g1]
 by_cases g2 : q.method≤4
 rotate_left
 ·simp -implicitDefEqProofs [pY,u1,u2,eq_true g1,eq_false g2]
 cases g3 : fV q.path <;> cases g4 : jX q.fields <;> rw [g3] at u1 <;> rw [g4] at u2
 all_goals
 simp -implicitDefEqProofs [pY,u1,u2,eq_true g1,eq_true g2]
 all_goals (repeat' split) <;> first | rfl | omega | (simp_all; done) | (simp_all; omega) | skip
theorem CU (q : Rq) (hb : bA q≤1073741824) : ev LI TT 231 [.agg (eY .af q)] = some (.bool (jg q),[.dead]):=by
 rw [ay (b:=oI) (rs:=[.t 2]) (n:=1) rfl rfl]
 have vt : bA q = q.path.length + wL aJ q.fields + q.body.length:=rfl
 unfold jg
 have u1:=yB  q.path (by omega)
 try simp at u1
 have u2:=CQ  q.fields (by omega)
 try simp at u2
 by_cases g1 : 1≤q.method
 rotate_left
 ·simp -implicitDefEqProofs [oI,u1,u2,eq_false g1]
 by_cases g2 : q.method≤4
 rotate_left
 ·simp -implicitDefEqProofs [oI,u1,u2,eq_true g1,eq_false g2]
 cases g3 : fV q.path <;> cases g4 : jX q.fields <;> rw [g3] at u1 <;> rw [g4] at u2
 all_goals
 simp -implicitDefEqProofs [oI,u1,u2,eq_true g1,eq_true g2]
 all_goals (repeat' split) <;> first | rfl | omega | (simp_all; done) | (simp_all; omega) | skip
def mq (q : Rq) : Bool:=jg q && decide (q.method = 1) && !(oh q.fields).ns
def gy (a b : Rq) : Bool:=mq a && mq b && decide (a.path = b.path) && decide (a.fields = b.fields)
theorem CZ (q : Rq) (hb : bA q≤1073741824) : ev LI TT 168 [.agg (eY .af q)] = some (.bool (mq q),[.dead]):=by
 rw [ay (b:=vR) (rs:=[.t 2]) (n:=1) rfl rfl]
 have vt : bA q = q.path.length + wL aJ q.fields + q.body.length:=rfl
 unfold mq
 have u1:=CU  q hb
 try simp at u1
 have u2:=IG  q.fields (by omega)
 try simp at u2
 cases g3 : jg q <;> rw [g3] at u1
 all_goals by_cases g4 : q.method = 1
 all_goals
 simp -implicitDefEqProofs [vR,u1,u2,g4]
 all_goals (repeat' split) <;> first | rfl | omega | (simp_all; done) | (simp_all; omega) | skip
theorem D9 (a b : aK) : a = b↔(a.name = b.name∧a.value = b.value):=by cases a; cases b; simp
theorem Ic (ps : List (aK×aK)) (hb : ps.length≤9223372036854775807) : aE (ai (ev LI TT) (ak TT) uj) [(0,.row .af 2 (ps.map fun x=>aG x.1)),(1,.row .af 2 (ps.map fun x=>aG x.2)),(12,.int .i64 ps.length),(13,.int .i64 0)] = if aF bE (ps) = true then some (.exit 0,[(0,.row .af 2 (ps.map fun x=>aG x.1)),(1,.row .af 2 (ps.map fun x=>aG x.2)),(12,.int .i64 ps.length),(13,.int .i64 ps.length),(14,.bool false)]) else some (.ret,[(4,.bool false)]):=by
 refine cj (f:=ai (ev LI TT) (ak TT) uj) (ps) (fun i=>[(0,.row .af 2 (ps.map fun x=>aG x.1)),(1,.row .af 2 (ps.map fun x=>aG x.2)),(12,.int .i64 ps.length),(13,.int .i64 i)]) bE _ _ (fun i b hi hl=>?_) ?_
 ·have hw:=aL i (by first | omega | (simp at hl; omega))
  obtain ⟨_,rfl⟩:=List.getElem?_eq_some_iff.1 hi
  simp -implicitDefEqProofs [uj,Cu,hl,hw,bE,D9]
  first | done | (split <;> simp_all; done) | (split <;> simp_all <;> (intro h; simp_all))
 ·simp -implicitDefEqProofs [uj,Cu]
theorem J9 (a b : List aK) (hb : a.length≤9223372036854775807) : ev LI TT 245 [.row .af 2 (a.map aG),.row .af 2 (b.map aG)] = some (.bool (decide (a = b)),[.dead,.dead]):=by
 rw [ay (b:=yb) (rs:=[.t 4]) (n:=2) rfl rfl]
 simp -implicitDefEqProofs [yb]
 by_cases h : a.length = b.length
 ·obtain ⟨ps,rfl,rfl⟩:=iD h
  have h1:=Ic ps (by simpa using hb)
  have h2:=gU ps
  simp at h1
  rw [← h2]
  cases h3 : aF bE ps <;> rw [h3] at h1 <;> simp [h1,Function.comp_def]
 ·have : ¬ a = b:=fun e=>h (by rw [e])
  simp [this]
  omega
theorem ID (a : Rq) (b : Rq) (ha : bA a≤1073741824) (hb : bA b≤1073741824) : ev LI TT 232 [.agg (eY .af a),.agg (eY .af b)] = some (.bool (gy a b),[.dead,.dead]):=by
 rw [ay (b:=mR) (rs:=[.t 4]) (n:=2) rfl rfl]
 have vt : bA a = a.path.length + wL aJ a.fields + a.body.length:=rfl
 have l2:=bt (w:=aJ) a.fields
 unfold gy
 have u1:=CZ  a ha
 try simp at u1
 have u2:=CZ  b hb
 try simp at u2
 have u3:=J9  a.fields b.fields (by omega)
 try simp at u3
 generalize mq a = g1 at u1
 generalize mq b = g2 at u2
 generalize decide (a.fields = b.fields) = g4 at u3
 cases g1
 ·simp -implicitDefEqProofs [mR,u1]
 cases g2
 ·simp -implicitDefEqProofs [mR,u1,u2]
 by_cases g3 : a.path = b.path
 rotate_left
 ·simp -implicitDefEqProofs [mR,u1,u2,eq_false g3]
 simp -implicitDefEqProofs [mR,u1,u2,u3,eq_true g3]
 all_goals (repeat' split) <;> first | rfl | omega | (simp_all; done) | (simp_all; omega) | skip
theorem GL {α : Type} [DecidableEq α] : ∀ {a b : List α},(∀ x∈a.zip b,¬ (decide (x.1≠x.2)) = true)→a.length = b.length→a = b
 | [],[],_,_=>rfl
 | x :: a,y :: b,h,hl=>by
  have h1:=h (x,y) (by simp)
  simp at h1
  have h2 : a = b:=GL (fun z hz=>h z (by simp only [List.zip_cons_cons]; exact List.mem_cons_of_mem _ hz)) (by simpa using hl)
  rw [h1,h2]
theorem Uq {α : Type} {a b : List α} {x : α×α} (hx : x∈a.zip b) (h : x.1≠x.2) : a≠b:=by
 rintro rfl
 have : ∀ {l : List α} {x : α×α},x∈l.zip l→x.1 = x.2:=by
  intro l
  induction l with
  | nil=>intro x h; simp at h
  | cons y l ih =>
   intro x h
   simp only [List.zip_cons_cons,List.mem_cons] at h
   rcases h with rfl | h
   ·rfl
   ·exact ih h
 exact h (this hx)
theorem H7 (a : List aK) (b : List aK) (hb : a.length≤9223372036854775807) (hY : b.length≤9223372036854775807) : aE (ai (ev LI TT) (ak TT) pZ) [(0,.row .af 2 (a.map aG)),(1,.row .af 2 (b.map aG)),(5,.int .i64 0)] = (cX (fun x=>decide (x.1≠x.2)) 0 (a.zip b)).elim (some (.exit 0,[(0,.row .af 2 (a.map aG)),(1,.row .af 2 (b.map aG)),(5,.int .i64 (a.zip b).length),(15,.bool false)])) fun x=>some (.ret,(fun (i : Nat) b=>[(4,.bool false)]) x.1 x.2):=by
 refine sQ (f:=ai (ev LI TT) (ak TT) pZ) (a.zip b) (fun i=>[(0,.row .af 2 (a.map aG)),(1,.row .af 2 (b.map aG)),(5,.int .i64 i)]) (fun x=>decide (x.1≠x.2)) (fun (i : Nat) b=>[(4,.bool false)]) _ (fun i b hi hl=>?_) ?_
 ·have hw:=aL i (by first | omega | (simp at hl; omega))
  obtain ⟨_,rfl⟩:=List.getElem?_eq_some_iff.1 hi
  have ha : i < a.length:=by simp at hl; omega
  have hb' : i < b.length:=by simp at hl; omega
  simp -implicitDefEqProofs [pZ,xE,hl,hw,ha,hb',D9]
 ·have hz : (a.zip b).length = min a.length b.length:=by simp
  rw [hz]
  by_cases hh : a.length≤b.length
  ·rw [Nat.min_eq_left hh]; simp -implicitDefEqProofs [pZ,xE]
  have h1 : b.length≤a.length:=by omega
  have h2 : (b.length : Int) < a.length:=by omega
  have h3 : b.length < a.length:=by omega
  rw [Nat.min_eq_right h1]
  simp -implicitDefEqProofs [pZ,xE,h2,h3]
theorem J3 (a : List aK) (b : List aK) (hb : a.length≤9223372036854775807) (hY : b.length≤9223372036854775807) : ev LI TT 229 [.row .af 2 (a.map aG),.row .af 2 (b.map aG)] = some (.bool (decide (a = b)),[.dead,.dead]):=by
 rw [ay (b:=p6) (rs:=[.t 4]) (n:=2) rfl rfl]
 have h:=H7 a b hb hY
 cases g : cX (fun x : aK×aK=>decide (x.1≠x.2)) 0 (a.zip b) with
 | some x =>
  obtain ⟨i,x⟩:=x
  obtain ⟨_,h1,h2⟩:=oA g
  have h3 : ¬ a = b:=Uq (List.mem_of_getElem? h1) (by simpa using h2)
  rw [g] at h; simp only [Option.elim] at h; simp -implicitDefEqProofs [p6,h,h3]
 | none =>
 have h1:=zx.1 g
 rw [g] at h
 simp only [Option.elim] at h
 try simp at h
 by_cases hl : a.length = b.length
 ·have h2:=GL h1 hl
  subst h2
  try simp at h
  simp -implicitDefEqProofs [p6,h]
 have h3 : ¬ a = b:=fun e=>hl (by rw [e])
 have h4 : ¬ (a.length : Int) = b.length:=by omega
 simp -implicitDefEqProofs [p6,h,h3,h4]
 all_goals (repeat' split) <;> first | rfl | omega | (simp_all; done) | (simp_all; omega) | skip
theorem JQ (a : Rq) (b : Rq) (ha : bA a≤1073741824) (hb : bA b≤1073741824) : ev LI TT 138 [.agg (eY .af a),.agg (eY .af b)] = some (.bool (gy a b),[.dead,.dead]):=by
 rw [ay (b:=jJ) (rs:=[.t 4]) (n:=2) rfl rfl]
 have vt : bA a = a.path.length + wL aJ a.fields + a.body.length:=rfl
 have Wn : bA b = b.path.length + wL aJ b.fields + b.body.length:=rfl
 have l2:=bt (w:=aJ) a.fields
 have l3:=bt (w:=aJ) b.fields
 unfold gy mq
 have u1:=yP  a ha
 try simp at u1
 have u2:=yP  b hb
 try simp at u2
 have u3:=J3  a.fields b.fields (by omega) (by omega)
 try simp at u3
 have u4:=JT  a.fields (by omega)
 try simp at u4
 generalize jg a = g1 at u1
 generalize jg b = g2 at u2
 cases g1
 ·simp -implicitDefEqProofs [jJ,u1]
 cases g2
 ·simp -implicitDefEqProofs [jJ,u1,u2]
 by_cases g4 : a.method = 1
 rotate_left
 ·simp -implicitDefEqProofs [jJ,u1,u2,g4]
 rw [g4] at u1
 by_cases g5 : b.method = 1
 rotate_left
 ·simp -implicitDefEqProofs [jJ,u1,u2,g4,g5]
 rw [g5] at u2
 by_cases g3 : a.path = b.path
 rotate_left
 ·simp -implicitDefEqProofs [jJ,u1,u2,g4,g5,eq_false g3]
 rw [← g3] at u2
 by_cases g6 : a.fields = b.fields
 rotate_left
 ·rw [decide_eq_false g6] at u3
  simp -implicitDefEqProofs [jJ,u1,u2,u3,g4,g5,← g3,eq_false g6]
 rw [decide_eq_true g6] at u3
 generalize hns : (oh a.fields).ns = g7 at u4
 have EK:=hns
 rw [g6] at EK
 cases g7
 all_goals
 simp -implicitDefEqProofs [jJ,u1,u2,u3,u4,g4,g5,← g3,eq_true g6,hns,EK]
 all_goals (repeat' split) <;> first | rfl | omega | (simp_all; done) | (simp_all; omega) | skip
end M
namespace M
open Go
theorem HR (s : Sh) (hb : b8 s≤1073741824) : aE (ai (ev LI TT) (ak TT) tJ) [(1,.ptr .own (bX .af s)),(3,.int .i64 0)] = if aF jm (s.aX) = true then some (.exit 0,[(1,.ptr .own (bX .af s)),(3,.int .i64 (s.aX).length),(33,.bool false)]) else some (.ret,[(2,.bool false)]):=by
 refine cj (f:=ai (ev LI TT) (ak TT) tJ) (s.aX) (fun i=>[(1,.ptr .own (bX .af s)),(3,.int .i64 i)]) jm _ _ (fun i b hi hl=>?_) ?_
 ·have hw:=aL i (by have lG : b8 s = cP s.bz + wL bx s.aC + wL bl s.aX:=rfl; have:=bt (w:=bl) s.aX; omega)
  obtain ⟨_,rfl⟩:=List.getElem?_eq_some_iff.1 hi
  have lG : b8 s = cP s.bz + wL bx s.aC + wL bl s.aX:=rfl
  have hm:=GA (List.getElem_mem hl)
  have u1:=JR  s.aX[i] (by omega)
  try simp at u1
  simp -implicitDefEqProofs [tJ,BX,hl,hw,u1]
  all_goals (repeat' split) <;> first | rfl | omega | (simp_all; done) | (simp_all; omega) | skip
 ·simp -implicitDefEqProofs [tJ,BX]
theorem HS (s : Sh) (n : Nat) (k : Kp) (hn : n≤s.aC.length) (hb : s.aC.length≤1073741824) : aE (ai (ev LI TT) (ak TT) tK) [(1,.ptr .own (bX .af s)),(4,.int .i64 n),(5,.ptr .own (aY .af k)),(6,.int .i64 0)] = if aF (fun y=>decide ¬ y.at_ = k.at_) (s.aC.take n) = true then some (.exit 4,[(1,.ptr .own (bX .af s)),(4,.int .i64 n),(5,.ptr .own (aY .af k)),(6,.int .i64 (s.aC.take n).length),(92,.bool false)]) else some (.ret,[(2,.bool false)]):=by
 refine cj (f:=ai (ev LI TT) (ak TT) tK) (s.aC.take n) (fun i=>[(1,.ptr .own (bX .af s)),(4,.int .i64 n),(5,.ptr .own (aY .af k)),(6,.int .i64 i)]) (fun y=>decide ¬ y.at_ = k.at_) _ _ (fun i b hi hl=>?_) ?_
 ·have hw:=aL i (by first | omega | (simp at hl; omega))
  obtain ⟨_,rfl⟩:=List.getElem?_eq_some_iff.1 hi
  have h1 : i < n:=by simp at hl; omega
  have h2 : i < s.aC.length:=by omega
  simp -implicitDefEqProofs [tK,BZ,hl,hw,h1,h2]
  all_goals (repeat' split) <;> first | rfl | omega | (simp_all; done) | (simp_all; omega) | skip
 ·have hmin : min n s.aC.length = n:=by omega
  simp -implicitDefEqProofs [tK,BZ,hmin]
theorem HT (s : Sh) (hb : b8 s≤1073741824) (hs : 1≤s.seq∧s.seq≤100000) : aE (ai (ev LI TT) (ak TT) iA) [(1,.ptr .own (bX .af s)),(4,.int .i64 0)] = if aF (gL s.seq s.aC) (s.aC.zipIdx) = true then some (.exit 2,[(1,.ptr .own (bX .af s)),(4,.int .i64 (s.aC.zipIdx).length),(47,.bool false)]) else some (.ret,[(2,.bool false)]):=by
 refine cj (f:=ai (ev LI TT) (ak TT) iA) (s.aC.zipIdx) (fun i=>[(1,.ptr .own (bX .af s)),(4,.int .i64 i)]) (gL s.seq s.aC) _ _ (fun i b hi hl=>?_) ?_
 ·have hw:=aL i (by have lG : b8 s = cP s.bz + wL bx s.aC + wL bl s.aX:=rfl; have:=bt (w:=bx) s.aC; simp at hl; omega)
  obtain ⟨_,rfl⟩:=List.getElem?_eq_some_iff.1 hi
  simp only [List.length_zipIdx] at hl
  have lG : b8 s = cP s.bz + wL bx s.aC + wL bl s.aX:=rfl
  have hlen:=bt (w:=bx) s.aC
  have hz : s.aC.zipIdx[i]'(by simpa using hl) = (s.aC[i],i):=by simp
  have hm:=GB (List.getElem_mem hl)
  have hS : IntKind.i64.wrap (s.seq - 1) = s.seq - 1:=ct (by omega) (by omega)
  rw [hz]
  have hmin : min i s.aC.length = i:=by omega
  have u1:=C8  s.aC[i].obj (by omega)
  try simp at u1
  have u2:=HS  s i s.aC[i] (by omega) (by omega)
  try simp at u2
  by_cases g1 : jb (s.aC[i]).obj = true
  rotate_left
  ·simp -implicitDefEqProofs [iA,jM,hl,hw,u1,u2,gL,hS,hmin,g1]
  by_cases g2 : 5≤(s.aC[i]).at_
  rotate_left
  ·simp -implicitDefEqProofs [iA,jM,hl,hw,u1,u2,gL,hS,hmin,g1,eq_false g2]
  by_cases g3 : (s.aC[i]).at_≤19
  rotate_left
  ·simp -implicitDefEqProofs [iA,jM,hl,hw,u1,u2,gL,hS,hmin,g1,eq_true g2,eq_false g3]
  by_cases g4 : 1≤(s.aC[i]).seq
  rotate_left
  ·simp -implicitDefEqProofs [iA,jM,hl,hw,u1,u2,gL,hS,hmin,g1,eq_true g2,eq_true g3,eq_false g4]
  by_cases g5 : (s.aC[i]).seq≤s.seq - 1
  rotate_left
  ·simp -implicitDefEqProofs [iA,jM,hl,hw,u1,u2,gL,hS,hmin,g1,eq_true g2,eq_true g3,eq_true g4,eq_false g5]
  by_cases g6 : i = 0
  ·subst g6
   try simp at u2 hw
   simp -implicitDefEqProofs [iA,jM,hl,hw,u1,u2,gL,hS,hmin,g1,eq_true g2,eq_true g3,eq_true g4,eq_true g5]
  obtain ⟨j,rfl⟩ : ∃ j,i = j + 1:=⟨i - 1,by omega⟩
  have hj : j < s.aC.length:=by omega
  have hJ : IntKind.i64.wrap (j : Int) = j:=ct (by omega) (by omega)
  have hp:=BH s.aC j hj
  try simp at u2 hw hS
  have hpos : (0 : Int) < (j : Int) + 1:=by omega
  have hlc : (j : Int) + 1 < s.aC.length:=by omega
  have e8 : (0 : Int)≤(j : Int) + 1:=by omega
  by_cases g7 : (s.aC[j]).seq < (s.aC[j + 1]).seq
  rotate_left
  ·have zH : (s.aC[j + 1]).seq≤(s.aC[j]).seq:=by omega
   simp -implicitDefEqProofs [iA,jM,hl,hw,u1,u2,gL,hS,hmin,g1,eq_true g2,eq_true g3,eq_true g4,eq_true g5,hj,hJ,hp,hpos,hlc,e8,eq_false g7,eq_true zH]
  have zH : ¬ (s.aC[j + 1]).seq≤(s.aC[j]).seq:=by omega
  simp -implicitDefEqProofs [iA,jM,hl,hw,u1,u2,gL,hS,hmin,g1,eq_true g2,eq_true g3,eq_true g4,eq_true g5,hj,hJ,hp,hpos,hlc,e8,eq_true g7,eq_false zH]
  all_goals (repeat' split) <;> first | rfl | omega | (simp_all; done) | (simp_all; omega) | skip
 ·simp -implicitDefEqProofs [iA,jM]
theorem J0 (s : Sh) (hb : b8 s≤1073741824) : ev LI TT 89 [.agg (bX .af s)] = some (.bool ((nQ s)),[.dead]):=by
 rw [ay (b:=jN) (rs:=[.t 2]) (n:=1) rfl rfl]
 have lG : b8 s = cP s.bz + wL bx s.aC + wL bl s.aX:=rfl
 have OM : cP s.bz = wL wS s.bz.cells + wL bV s.bz.pending:=rfl
 have hlen:=bt (w:=bV) s.bz.pending
 unfold nQ
 have u1:=JV  s.bz (by omega)
 try simp at u1
 have u2:=HR  s hb
 try simp at u2
 by_cases g1 : nB s.bz = true
 rotate_left
 ·simp -implicitDefEqProofs [jN,u1,u2,g1]
 by_cases g2 : (s.aX.length : Int)≤5
 rotate_left
 ·simp -implicitDefEqProofs [jN,u1,u2,g1,eq_false g2]
 by_cases g3 : 5≤s.next
 rotate_left
 ·simp -implicitDefEqProofs [jN,u1,u2,g1,eq_true g2,eq_false g3]
 by_cases g4 : s.next≤19
 rotate_left
 ·simp -implicitDefEqProofs [jN,u1,u2,g1,eq_true g2,eq_true g3,eq_false g4]
 by_cases g5 : 1≤s.seq
 rotate_left
 ·simp -implicitDefEqProofs [jN,u1,u2,g1,eq_true g2,eq_true g3,eq_true g4,eq_false g5]
 by_cases g6 : s.seq≤100000
 rotate_left
 ·simp -implicitDefEqProofs [jN,u1,u2,g1,eq_true g2,eq_true g3,eq_true g4,eq_true g5,eq_false g6]
 have u3:=HT s hb ⟨by omega,by omega⟩
 rw [Pg] at u3
 simp at u3
 have NC : ¬ 5 < (s.aX.length : Int):=by omega
 simp -implicitDefEqProofs [jN,u1,u2,g1,eq_true g2,eq_true g3,eq_true g4,eq_true g5,eq_true g6,u3,NC]
 all_goals (repeat' split) <;> first | rfl | omega | (simp_all; done) | (simp_all; omega) | skip
end M
namespace M
open Go
theorem IV (x k : Kp) : ev LI TT 262 [.agg (aY .af x),.ptr .af (aY .af k)] = some (.bool (decide (x.at_ = k.at_)),[.dead,.dead]):=by
 rw [ay (b:=vF) (rs:=[.t 3]) (n:=2) rfl rfl]
 simp -implicitDefEqProofs [vF]
 all_goals (repeat' split) <;> first | rfl | omega | (simp_all; done) | (simp_all; omega) | skip
theorem Ih (l : List Kp) (k : Kp) (gf : Nat) (p : Kp→Bool) (ho : ak TT gf = true) (hf : ∀ x∈l,ev LI TT gf [.agg (aY .af x),.ptr .af (aY .af k)] = some (.bool (p x),[.dead,.dead])) (hb : l.length≤9223372036854775807) : aE (ai (ev LI TT) (ak TT) uq) [(0,.row .af 9 (l.map (aY .af))),(1,.fn gf [.ptr .af (aY .af k)]),(7,.int .i64 l.length),(8,.int .i64 0)] = (cX p 0 (l)).elim (some (.exit 0,[(0,.row .af 9 (l.map (aY .af))),(1,.fn gf [.ptr .af (aY .af k)]),(7,.int .i64 l.length),(8,.int .i64 (l).length),(9,.bool false)])) fun x=>some (.ret,(fun (i : Nat) b=>[(4,.int .i64 i)]) x.1 x.2):=by
 refine sQ (f:=ai (ev LI TT) (ak TT) uq) (l) (fun i=>[(0,.row .af 9 (l.map (aY .af))),(1,.fn gf [.ptr .af (aY .af k)]),(7,.int .i64 l.length),(8,.int .i64 i)]) p (fun (i : Nat) b=>[(4,.int .i64 i)]) _ (fun i b hi hl=>?_) ?_
 ·have hw:=aL i (by first | omega | (simp at hl; omega))
  obtain ⟨_,rfl⟩:=List.getElem?_eq_some_iff.1 hi
  have u1:=hf l[i] (List.getElem_mem hl)
  try simp at u1
  simp -implicitDefEqProofs [uq,Cx,hl,hw,u1,ho,vY]
  all_goals (repeat' split) <;> first | rfl | omega | (simp_all; done) | (simp_all; omega) | skip
 ·simp -implicitDefEqProofs [uq,Cx]
theorem Kc (l : List Kp) (k : Kp) (gf : Nat) (p : Kp→Bool) (ho : ak TT gf = true) (hf : ∀ x∈l,ev LI TT gf [.agg (aY .af x),.ptr .af (aY .af k)] = some (.bool (p x),[.dead,.dead])) (hb : l.length≤9223372036854775807) : ev LI TT 268 [.row .af 9 (l.map (aY .af)),.fn gf [.ptr .af (aY .af k)]] = some (.int .i64 ((cX p 0 l).elim (-1) fun x=>(x.1 : Int)),[.dead,.dead]):=by
 rw [ay (b:=ur) (rs:=[.t 4]) (n:=2) rfl rfl]
 have u1:=Ih  l k gf p ho hf hb
 try simp at u1
 cases g : cX p 0 l with
 | none=>rw [g] at u1; simp at u1; simp -implicitDefEqProofs [ur,u1]
 | some x =>
 rw [g] at u1
 simp at u1
 simp -implicitDefEqProofs [ur,u1]
 all_goals (repeat' split) <;> first | rfl | omega | (simp_all; done) | (simp_all; omega) | skip
theorem J8 (l : List Kp) (k : Kp) (gf : Nat) (p : Kp→Bool) (ho : ak TT gf = true) (hf : ∀ x∈l,ev LI TT gf [.agg (aY .af x),.ptr .af (aY .af k)] = some (.bool (p x),[.dead,.dead])) (hb : l.length≤9223372036854775807) : ev LI TT 223 [.row .af 9 (l.map (aY .af)),.fn gf [.ptr .af (aY .af k)]] = some (.bool (!aF (fun x=>!p x) l),[.dead,.dead]):=by
 rw [ay (b:=uh) (rs:=[.t 4]) (n:=2) rfl rfl]
 have u1:=Kc  l k gf p ho hf hb
 try simp at u1
 rw [← D0 p l 0]
 cases g : cX p 0 l with
 | none=>rw [g] at u1; simp at u1; simp -implicitDefEqProofs [uh,u1]
 | some x =>
 rw [g] at u1
 simp at u1
 simp -implicitDefEqProofs [uh,u1]
 all_goals (repeat' split) <;> first | rfl | omega | (simp_all; done) | (simp_all; omega) | skip
theorem G5 (s : Sh) (hb : b8 s≤1073741824) : ∃ sl,aE (ai (ev LI TT) (ak TT) iT) [(0,.ptr .af (bX .af s)),(3,.int .i64 0),(7,.ptr .af (bX .af s)),(8,.ptr .af (bX .af s)),(9,.ptr .af ((bX .af s).drop 2)),(10,.row .af 9 (s.aC.map (aY .af))),(11,.int .i64 s.aC.length),(12,.int .i64 0)] = if s8 s.seq s.aC = true then some (.exit 0,sl) else some (.ret,[(2,.bool false)]):=by
 have lG : b8 s = cP s.bz + wL bx s.aC + wL bl s.aX:=rfl
 have hlen:=bt (w:=bx) s.aC
 refine ⟨_,cj (f:=ai (ev LI TT) (ak TT) iT) s.aC.zipIdx (fun i=>[(0,.ptr .af (bX .af s)),(3,.int .i64 (je s.aC i)),(7,.ptr .af (bX .af s)),(8,.ptr .af (bX .af s)),(9,.ptr .af ((bX .af s).drop 2)),(10,.row .af 9 (s.aC.map (aY .af))),(11,.int .i64 s.aC.length),(12,.int .i64 i)]) (mZ s.seq s.aC) [(2,.bool false)] [(0,.ptr .af (bX .af s)),(3,.int .i64 (je s.aC s.aC.length)),(7,.ptr .af (bX .af s)),(8,.ptr .af (bX .af s)),(9,.ptr .af ((bX .af s).drop 2)),(10,.row .af 9 (s.aC.map (aY .af))),(11,.int .i64 s.aC.length),(12,.int .i64 s.aC.length),(13,.bool false)] (fun i b hi hl=>?_) ?_⟩
 ·simp only [List.length_zipIdx] at hl
  have hw:=aL i (by omega)
  obtain ⟨_,rfl⟩:=List.getElem?_eq_some_iff.1 hi
  have hz : s.aC.zipIdx[i]'(by simpa using hl) = (s.aC[i],i):=by simp
  have hm:=GB (List.getElem_mem hl)
  have hp:=BH s.aC i hl
  rw [hz]
  have hs : iB [] = true:=rfl
  have u1:=CT s.aC[i].obj (by omega)
  have u2:=J8 (s.aC.take i) s.aC[i] 262 (fun x=>decide (x.at_ = (s.aC[i]).at_)) rfl (fun x _=>IV x s.aC[i]) (by simp; omega)
  have hle : (i : Int)≤s.aC.length:=by omega
  have hle2 : i≤s.aC.length:=by omega
  simp at u1 u2
  unfold mZ
  by_cases g1 : jb (s.aC[i]).obj = true
  rotate_left
  ·simp -implicitDefEqProofs [iT,kq,hl,hw,hle,hle2,gR,eN,dN,u1,u2,g1]
  by_cases g2 : 5≤(s.aC[i]).at_
  rotate_left
  ·simp -implicitDefEqProofs [iT,kq,hl,hw,hle,hle2,gR,eN,dN,u1,u2,g1,eq_false g2]
  by_cases g3 : (s.aC[i]).at_≤19
  rotate_left
  ·simp -implicitDefEqProofs [iT,kq,hl,hw,hle,hle2,gR,eN,dN,u1,u2,g1,eq_true g2,eq_false g3]
  by_cases g4 : aF (fun y : Kp=>!decide (y.at_ = (s.aC[i]).at_)) (s.aC.take i) = true
  rotate_left
  ·simp -implicitDefEqProofs [iT,kq,hl,hw,hle,hle2,gR,eN,dN,u1,u2,g1,eq_true g2,eq_true g3,g4]
  by_cases g5 : je s.aC i < (s.aC[i]).seq
  rotate_left
  ·have lz : (s.aC[i]).seq≤je s.aC i:=by omega
   simp -implicitDefEqProofs [iT,kq,hl,hw,hle,hle2,gR,eN,dN,u1,u2,g1,eq_true g2,eq_true g3,g4,eq_false g5,eq_true lz]
  have lz : ¬ (s.aC[i]).seq≤je s.aC i:=by omega
  by_cases g6 : (s.aC[i]).seq < s.seq
  rotate_left
  ·have zG : s.seq≤(s.aC[i]).seq:=by omega
   simp -implicitDefEqProofs [iT,kq,hl,hw,hle,hle2,gR,eN,dN,u1,u2,g1,eq_true g2,eq_true g3,g4,eq_true g5,eq_false lz,eq_false g6,eq_true zG]
  have zG : ¬ s.seq≤(s.aC[i]).seq:=by omega
  simp -implicitDefEqProofs [iT,kq,hl,hw,hle,hle2,gR,eN,dN,u1,u2,g1,eq_true g2,eq_true g3,g4,eq_true g5,eq_false lz,eq_true g6,eq_false zG,hp]
 ·simp -implicitDefEqProofs [iT,kq]
theorem IU (s : Sh) (hb : b8 s≤1073741824) : ev LI TT 181 [.ptr .af (bX .af s)] = some (.bool (s8 s.seq s.aC),[.dead]):=by
 rw [ay (b:=vG) (rs:=[.t 2]) (n:=1) rfl rfl]
 obtain ⟨sl,u1⟩:=G5 s hb
 simp at u1
 simp -implicitDefEqProofs [vG,u1]
 all_goals (repeat' split) <;> first | rfl | omega | (simp_all; done) | (simp_all; omega) | skip
theorem GU (s : Sh) (hb : b8 s≤1073741824) : aE (ai (ev LI TT) (ak TT) rK) [(1,.ptr .own (bX .af s)),(5,.az 1 [] 0 3),(6,.row .af 4 (s.aX.map bQ)),(7,.int .i64 s.aX.length),(8,.int .i64 0)] = if aF jm (s.aX) = true then some (.exit 0,[(1,.ptr .own (bX .af s)),(5,.az 1 [] 0 3),(6,.row .af 4 (s.aX.map bQ)),(7,.int .i64 s.aX.length),(8,.int .i64 (s.aX).length),(9,.bool false)]) else some (.ret,[(2,.bool false)]):=by
 refine cj (f:=ai (ev LI TT) (ak TT) rK) (s.aX) (fun i=>[(1,.ptr .own (bX .af s)),(5,.az 1 [] 0 3),(6,.row .af 4 (s.aX.map bQ)),(7,.int .i64 s.aX.length),(8,.int .i64 i)]) jm _ _ (fun i b hi hl=>?_) ?_
 ·have hw:=aL i (by have lG : b8 s = cP s.bz + wL bx s.aC + wL bl s.aX:=rfl; have:=bt (w:=bl) s.aX; omega)
  obtain ⟨_,rfl⟩:=List.getElem?_eq_some_iff.1 hi
  have lG : b8 s = cP s.bz + wL bx s.aC + wL bl s.aX:=rfl
  have hm:=GA (List.getElem_mem hl)
  have u1:=IE  s.aX[i] (by omega)
  try simp at u1
  simp -implicitDefEqProofs [rK,Av,hl,hw,u1]
  all_goals (repeat' split) <;> first | rfl | omega | (simp_all; done) | (simp_all; omega) | skip
 ·simp -implicitDefEqProofs [rK,Av]
theorem IQ (s : Sh) (hb : b8 s≤1073741824) : ev LI TT 92 [.agg (bX .af s)] = some (.bool ((nQ s)),[.dead]):=by
 rw [ay (b:=iS) (rs:=[.t 2]) (n:=1) rfl rfl]
 have lG : b8 s = cP s.bz + wL bx s.aC + wL bl s.aX:=rfl
 have OM : cP s.bz = wL wS s.bz.cells + wL bV s.bz.pending:=rfl
 have hlen:=bt (w:=bV) s.bz.pending
 unfold nQ
 have u1:=IK  s.bz (by omega)
 try simp at u1
 have u2:=GU  s hb
 try simp at u2
 have u3:=IU  s hb
 try simp at u3
 by_cases g1 : aF jm s.aX = true
 rotate_left
 ·simp -implicitDefEqProofs [iS,u1,u2,u3,g1]
 by_cases g2 : (s.aX.length : Int)≤5
 rotate_left
 ·simp -implicitDefEqProofs [iS,u1,u2,u3,g1,eq_false g2]
 by_cases g3 : 5≤s.next
 rotate_left
 ·simp -implicitDefEqProofs [iS,u1,u2,u3,g1,eq_true g2,eq_false g3]
 by_cases g4 : s.next≤19
 rotate_left
 ·simp -implicitDefEqProofs [iS,u1,u2,u3,g1,eq_true g2,eq_true g3,eq_false g4]
 by_cases g5 : 1≤s.seq
 rotate_left
 ·simp -implicitDefEqProofs [iS,u1,u2,u3,g1,eq_true g2,eq_true g3,eq_true g4,eq_false g5]
 by_cases g6 : s.seq≤100000
 rotate_left
 ·simp -implicitDefEqProofs [iS,u1,u2,u3,g1,eq_true g2,eq_true g3,eq_true g4,eq_true g5,eq_false g6]
 by_cases g7 : nB s.bz = true
 rotate_left
 ·simp -implicitDefEqProofs [iS,u1,u2,u3,g1,eq_true g2,eq_true g3,eq_true g4,eq_true g5,eq_true g6,g7]
 simp -implicitDefEqProofs [iS,u1,u2,u3,g1,eq_true g2,eq_true g3,eq_true g4,eq_true g5,eq_true g6,g7]
 all_goals (repeat' split) <;> first | rfl | omega | (simp_all; done) | (simp_all; omega) | skip
end M
set_option maxHeartbeats 4000000
namespace M
open Go
def jY (l : List Fl) (x : Fl×Nat) : Bool:=jg x.1.q && decide (1≤(x.1.who.length : Int)∧(x.1.who.length : Int)≤5) && (!x.1.ju || jb x.1.old) && aF (fun y=>!gy y.q x.1.q) (l.take x.2)
def qO (l : List Fl) : Bool:=decide ((l.length : Int)≤5) && aF (jY l) l.zipIdx
def mz (c : Ca) : Bool:=nQ c.ck && decide (0≤c.now∧c.now≤1000000) && decide ((c.seen.length : Int)≤1500) && decide ((c.sent.length : Int)≤1500) && qO c.aH
theorem x8 {l : List Fl} {x : Fl} (h : x∈l) : bA x.q≤wL bg l∧bT x.old≤wL bg l:=by
 have h1:=dF (w:=bg) h
 have h2 : bg x = bA x.q + wL wO x.who + bT x.old:=rfl
 omega
theorem ue (c : Ca) : wL bg c.aH≤cr c:=by unfold cr; omega
theorem HG (c : Ca) (n : Nat) (x : Fl) (hn : n≤c.aH.length) (hx : bA x.q≤1073741824) (hc : cr c≤1073741824) : aE (ai (ev LI TT) (ak TT) tB) [(1,.ptr .own (cg .af c)),(3,.int .i64 n),(4,.ptr .own (aP .af x)),(5,.int .i64 0)] = if aF (fun y=>!gy y.q x.q) (c.aH.take n) = true then some (.exit 2,[(1,.ptr .own (cg .af c)),(3,.int .i64 n),(4,.ptr .own (aP .af x)),(5,.int .i64 (c.aH.take n).length),(69,.bool false)]) else some (.ret,[(2,.bool false)]):=by
 refine cj (f:=ai (ev LI TT) (ak TT) tB) (c.aH.take n) (fun i=>[(1,.ptr .own (cg .af c)),(3,.int .i64 n),(4,.ptr .own (aP .af x)),(5,.int .i64 i)]) (fun y=>!gy y.q x.q) _ _ (fun i b hi hl=>?_) ?_
 ·have hw:=aL i (by have:=bt (w:=bg) c.aH; have:=ue c; simp at hl; omega)
  obtain ⟨_,rfl⟩:=List.getElem?_eq_some_iff.1 hi
  have h1 : i < n:=by simp at hl; omega
  have h2 : i < c.aH.length:=by omega
  have h3:=ue c
  have h4:=x8 (List.getElem_mem h2)
  have u1:=JQ (c.aH[i]).q x.q (by omega) hx
  cases hal : gy (c.aH[i]).q x.q <;> rw [hal] at u1 <;> simp at u1
  all_goals
  simp -implicitDefEqProofs [tB,BR,hl,hw,h1,h2,u1,hal]
  all_goals (repeat' split) <;> first | rfl | omega | (simp_all; done) | (simp_all; omega) | skip
 ·have hmin : min n c.aH.length = n:=by omega
  simp -implicitDefEqProofs [tB,BR,hmin]
theorem HH (c : Ca) (hc : cr c≤100000000) : aE (ai (ev LI TT) (ak TT) nH) [(1,.ptr .own (cg .af c)),(3,.int .i64 0)] = if aF (jY c.aH) (c.aH.zipIdx) = true then some (.exit 0,[(1,.ptr .own (cg .af c)),(3,.int .i64 (c.aH.zipIdx).length),(38,.bool false)]) else some (.ret,[(2,.bool false)]):=by
 refine cj (f:=ai (ev LI TT) (ak TT) nH) (c.aH.zipIdx) (fun i=>[(1,.ptr .own (cg .af c)),(3,.int .i64 i)]) (jY c.aH) _ _ (fun i b hi hl=>?_) ?_
 ·have hw:=aL i (by have:=bt (w:=bg) c.aH; have:=ue c; simp at hl; omega)
  obtain ⟨_,rfl⟩:=List.getElem?_eq_some_iff.1 hi
  simp only [List.length_zipIdx] at hl
  have hz : c.aH.zipIdx[i]'(by simpa using hl) = (c.aH[i],i):=by simp
  have h3:=ue c
  have h4:=x8 (List.getElem_mem hl)
  have hmin : min i c.aH.length = i:=by omega
  rw [hz]
  unfold jY
  have u1:=yP  (c.aH[i]).q (by omega)
  try simp at u1
  have u2:=C8  (c.aH[i]).old (by omega)
  try simp at u2
  have u3:=HG  c i c.aH[i] (by omega) (by omega) (by omega)
  try simp at u3
  generalize jg (c.aH[i]).q = b1 at u1
  cases b1
  ·simp -implicitDefEqProofs [nH,pV,hl,hw,u1]
  by_cases g2 : 1≤((c.aH[i]).who.length : Int)∧((c.aH[i]).who.length : Int)≤5
  rotate_left
  ·simp only [nH,decide_eq_false g2,Bool.and_false,Bool.false_and]
   by_cases iL : 1≤((c.aH[i]).who.length : Int)
   ·have mH : ¬ ((c.aH[i]).who.length : Int)≤5:=fun h=>g2 ⟨iL,h⟩
    simp -implicitDefEqProofs [pV,hl,hw,u1,iL,mH]
   ·simp -implicitDefEqProofs [pV,hl,hw,u1,iL]
  rw [decide_eq_true g2]
  obtain ⟨iL,mH⟩:=g2
  generalize jb (c.aH[i]).old = b2 at u2
  cases qZ : (c.aH[i]).ju
  all_goals rw [qZ] at u3
  all_goals cases b2
  all_goals cases g5 : aF (fun y : Fl=>!gy y.q (c.aH[i]).q) (c.aH.take i) <;> rw [g5] at u3
  all_goals try simp at u3
  all_goals
  simp -implicitDefEqProofs [nH,pV,hl,hw,u1,u2,u3,hmin,iL,mH,qZ,g5]
  all_goals (repeat' split) <;> first | rfl | omega | (simp_all; done) | (simp_all; omega) | skip
 ·simp -implicitDefEqProofs [nH,pV]
theorem JS (c : Ca) (hc : cr c≤100000000) : ev LI TT 53 [.agg (cg .af c)] = some (.bool (mz c),[.dead]):=by
 rw [ay (b:=jK) (rs:=[.t 2]) (n:=1) rfl rfl]
 have hsh : b8 c.ck≤cr c:=by unfold cr; omega
 unfold mz qO
 have u1:=J0  c.ck (by omega)
 try simp at u1
 have u2:=HH  c hc
 try simp at u2
 generalize nQ c.ck = b1 at u1
 cases b1
 ·simp -implicitDefEqProofs [jK,u1]
 by_cases g1 : 0≤c.now
 rotate_left
 ·simp -implicitDefEqProofs [jK,u1,g1]
 by_cases g2 : c.now≤1000000
 rotate_left
 ·simp -implicitDefEqProofs [jK,u1,g1,g2]
 by_cases g3 : (c.aH.length : Int)≤5
 rotate_left
 ·have zE : 5 < (c.aH.length : Int):=by omega
  simp -implicitDefEqProofs [jK,u1,g1,g2,g3,zE]
 by_cases g4 : (c.seen.length : Int)≤1500
 rotate_left
 ·have zF : 1500 < (c.seen.length : Int):=by omega
  simp -implicitDefEqProofs [jK,u1,g1,g2,g3,g4,zF,(by omega : ¬ 5 < (c.aH.length : Int))]
 by_cases g5 : (c.sent.length : Int)≤1500
 rotate_left
 ·have lz : 1500 < (c.sent.length : Int):=by omega
  simp -implicitDefEqProofs [jK,u1,g1,g2,g3,g4,g5,lz,(by omega : ¬ 5 < (c.aH.length : Int)),(by omega : ¬ 1500 < (c.seen.length : Int))]
 have zE : ¬ 5 < (c.aH.length : Int):=by omega
 have zF : ¬ 1500 < (c.seen.length : Int):=by omega
 have lz : ¬ 1500 < (c.sent.length : Int):=by omega
 cases g6 : aF (jY c.aH) c.aH.zipIdx <;> rw [g6] at u2
 all_goals try simp at u2
 all_goals
 simp -implicitDefEqProofs [jK,u1,u2,g1,g2,g3,g4,g5,zE,zF,lz,g6]
 all_goals (repeat' split) <;> first | rfl | omega | (simp_all; done) | (simp_all; omega) | skip
theorem GZ (l : List Fl) (n : Nat) (x : Fl) (hn : n≤l.length) (hx : bA x.q≤1073741824) (hc : wL bg l≤100000000) : aE (ai (ev LI TT) (ak TT) rO) [(0,.row .af 13 (l.map (aP .af))),(4,.ptr .own (aP .af x)),(7,.row .af 13 (l.map (aP .af))),(8,.int .i64 l.length),(9,.int .i64 n),(35,.row .af 13 (l.map (aP .af))),(36,.int .i64 n),(37,.row .af 13 ((l.take n).map (aP .af))),(38,.int .i64 n),(39,.int .i64 0)] = if aF (fun y=>!gy y.q x.q) (l.take n) = true then some (.exit 2,[(0,.row .af 13 (l.map (aP .af))),(4,.ptr .own (aP .af x)),(7,.row .af 13 (l.map (aP .af))),(8,.int .i64 l.length),(9,.int .i64 n),(35,.row .af 13 (l.map (aP .af))),(36,.int .i64 n),(37,.row .af 13 ((l.take n).map (aP .af))),(38,.int .i64 n),(39,.int .i64 (l.take n).length),(40,.bool false)]) else some (.ret,[(2,.bool false)]):=by
 refine cj (f:=ai (ev LI TT) (ak TT) rO) (l.take n) (fun i=>[(0,.row .af 13 (l.map (aP .af))),(4,.ptr .own (aP .af x)),(7,.row .af 13 (l.map (aP .af))),(8,.int .i64 l.length),(9,.int .i64 n),(35,.row .af 13 (l.map (aP .af))),(36,.int .i64 n),(37,.row .af 13 ((l.take n).map (aP .af))),(38,.int .i64 n),(39,.int .i64 i)]) (fun y=>!gy y.q x.q) _ _ (fun i b hi hl=>?_) ?_
 ·have hw:=aL i (by have:=bt (w:=bg) l; simp at hl; omega)
  obtain ⟨_,rfl⟩:=List.getElem?_eq_some_iff.1 hi
  have h1 : i < n:=by simp at hl; omega
  have h2 : i < l.length:=by omega
  have h4:=x8 (List.getElem_mem h2)
  have u1:=ID (l[i]).q x.q (by omega) hx
  cases hal : gy (l[i]).q x.q <;> rw [hal] at u1 <;> simp at u1
  all_goals
  simp -implicitDefEqProofs [rO,AA,hl,hw,h1,h2,u1,hal]
  all_goals (repeat' split) <;> first | rfl | omega | (simp_all; done) | (simp_all; omega) | skip
 ·have hmin : min n l.length = n:=by omega
  simp -implicitDefEqProofs [rO,AA,hmin]
theorem G0 (l : List Fl) (hc : wL bg l≤100000000) : aE (ai (ev LI TT) (ak TT) mW) [(0,.row .af 13 (l.map (aP .af))),(7,.row .af 13 (l.map (aP .af))),(8,.int .i64 l.length),(9,.int .i64 0)] = if aF (jY l) (l.zipIdx) = true then some (.exit 0,[(0,.row .af 13 (l.map (aP .af))),(7,.row .af 13 (l.map (aP .af))),(8,.int .i64 l.length),(9,.int .i64 (l.zipIdx).length),(10,.bool false)]) else some (.ret,[(2,.bool false)]):=by
 refine cj (f:=ai (ev LI TT) (ak TT) mW) (l.zipIdx) (fun i=>[(0,.row .af 13 (l.map (aP .af))),(7,.row .af 13 (l.map (aP .af))),(8,.int .i64 l.length),(9,.int .i64 i)]) (jY l) _ _ (fun i b hi hl=>?_) ?_
 ·have hw:=aL i (by have:=bt (w:=bg) l; simp at hl; omega)
  obtain ⟨_,rfl⟩:=List.getElem?_eq_some_iff.1 hi
  simp only [List.length_zipIdx] at hl
  have hz : l.zipIdx[i]'(by simpa using hl) = (l[i],i):=by simp
  have h4:=x8 (List.getElem_mem hl)
  have hmin : min i l.length = i:=by omega
  have hle : (i : Int)≤l.length:=by omega
  have hle2 : i≤l.length:=by omega
  rw [hz]
  unfold jY
  have u1:=CU  (l[i]).q (by omega)
  try simp at u1
  have u2:=CT  (l[i]).old (by omega)
  try simp at u2
  have u3:=GZ  l i l[i] (by omega) (by omega) (by omega)
  try simp at u3
  generalize jg (l[i]).q = b1 at u1
  cases b1
  ·simp -implicitDefEqProofs [mW,oK,hl,hw,u1]
  by_cases g2 : 1≤((l[i]).who.length : Int)∧((l[i]).who.length : Int)≤5
  rotate_left
  ·simp only [mW,decide_eq_false g2,Bool.and_false,Bool.false_and]
   by_cases iL : 1≤((l[i]).who.length : Int)
   ·have mH : ¬ ((l[i]).who.length : Int)≤5:=fun h=>g2 ⟨iL,h⟩
    simp -implicitDefEqProofs [oK,hl,hw,u1,iL,mH]
   ·simp -implicitDefEqProofs [oK,hl,hw,u1,iL]
  rw [decide_eq_true g2]
  obtain ⟨iL,mH⟩:=g2
  generalize jb (l[i]).old = b2 at u2
  cases qZ : (l[i]).ju
  all_goals rw [qZ] at u3
  all_goals cases b2
  all_goals cases g5 : aF (fun y : Fl=>!gy y.q (l[i]).q) (l.take i) <;> rw [g5] at u3
  all_goals try simp at u3
  all_goals try simp only [hmin] at u3
  all_goals
  simp -implicitDefEqProofs [mW,oK,hl,hw,u1,u2,u3,hmin,hle,hle2,iL,mH,qZ,g5]
  all_goals (repeat' split) <;> first | rfl | omega | (simp_all; done) | (simp_all; omega) | skip
 ·simp -implicitDefEqProofs [mW,oK]
theorem IY (l : List Fl) (hc : wL bg l≤100000000) : ev LI TT 144 [.row .af 13 (l.map (aP .af))] = some (.bool (qO l),[.dead]):=by
 rw [ay (b:=vP) (rs:=[.t 2]) (n:=1) rfl rfl]
 have u1:=G0  l hc
 try simp at u1
 unfold qO
 cases g6 : aF (jY l) l.zipIdx <;> rw [g6] at u1
 all_goals try simp at u1
 all_goals
 simp -implicitDefEqProofs [vP,u1]
 all_goals (repeat' split) <;> first | rfl | omega | (simp_all; done) | (simp_all; omega) | skip
theorem IF (c : Ca) (hc : cr c≤100000000) : ev LI TT 60 [.agg (cg .af c)] = some (.bool (mz c),[.dead]):=by
 rw [ay (b:=kj) (rs:=[.t 2]) (n:=1) rfl rfl]
 have hsh : b8 c.ck≤cr c:=by unfold cr; omega
 have hfl:=ue c
 unfold mz
 have u1:=IQ  c.ck (by omega)
 try simp at u1
 have u2:=IY  c.aH (by omega)
 try simp at u2
 by_cases g1 : 0≤c.now
 rotate_left
 ·simp -implicitDefEqProofs [kj,u1,g1]
 by_cases g2 : c.now≤1000000
 rotate_left
 ·simp -implicitDefEqProofs [kj,u1,g1,g2]
 by_cases g4 : (c.seen.length : Int)≤1500
 rotate_left
 ·simp -implicitDefEqProofs [kj,u1,g1,g2,g4]
 by_cases g5 : (c.sent.length : Int)≤1500
 rotate_left
 ·simp -implicitDefEqProofs [kj,u1,g1,g2,g4,g5]
 generalize qO c.aH = b2 at u2
 cases b2
 ·simp -implicitDefEqProofs [kj,u1,u2,g1,g2,g4,g5]
 generalize nQ c.ck = b1 at u1
 cases b1
 all_goals
 simp -implicitDefEqProofs [kj,u1,u2,g1,g2,g4,g5]
 all_goals (repeat' split) <;> first | rfl | omega | (simp_all; done) | (simp_all; omega) | skip
end M
set_option maxHeartbeats 4000000
namespace M
open Go
end M
namespace M
open Go
end M
namespace M
open Go
end M
set_option maxHeartbeats 4000000
namespace M
open Go
end M
set_option maxHeartbeats 4000000
namespace M
open Go
end M
set_option maxHeartbeats 4000000
namespace M
open Go
end M
set_option maxHeartbeats 4000000
namespace M
open Go
def jd (c : Ca) : List Int:=c.aH.flatMap (fun x=>x.who) ++ c.sent.map (fun x=>x.client)
theorem Pd (l : List Int) : (Lib.compact (eR l)).length = l.length↔l.Nodup:=by
 have hp : (eR l).Perm l:=List.mergeSort_perm l _
 have hs : (eR l).Pairwise (fun a b=>a≤b):=by
  have:=List.pairwise_mergeSort (le:=fun x y : Int=>decide (x≤y)) (fun a b c h1 h2=>by simp at *; omega) (fun a b=>by simp; omega) l
  exact this.imp fun h=>by simpa using h
 rw [← hp.nodup_iff,← hp.length_eq]
 generalize eR l = s at hs
 unfold Lib.compact Lib.compactUpTo
 rw [List.length_map]
 constructor
 ·intro h
  have h2 : (List.range s.length).filter (Lib.keeps s.toArray) = List.range s.length:=by
   apply List.Sublist.eq_of_length List.filter_sublist
   rw [h,List.length_range]
  rw [List.filter_eq_self] at h2
  rw [List.nodup_iff_pairwise_ne,List.pairwise_iff_getElem]
  intro i j hi hj hij
  have hk:=h2 j (List.mem_range.2 hj)
  have h3:=(List.pairwise_iff_getElem.1 hs) i (j - 1)
  have h4:=(List.pairwise_iff_getElem.1 hs) (j - 1) j (by omega) hj (by omega)
  have h5 : s[j]≠s[j - 1]:=by
   unfold Lib.keeps at hk
   simp only [decide_eq_true_eq] at hk
   rcases hk with hk | hk
   ·omega
   ·simpa [hj,show j - 1 < s.length by omega] using hk
  by_cases e : i = j - 1
  ·subst e; exact fun h=>h5 h.symm
  ·have h6:=h3 hi (by omega) (by omega)
   intro h7
   omega
 ·intro h
  have h2 : (List.range s.length).filter (Lib.keeps s.toArray) = List.range s.length:=by
   rw [List.filter_eq_self]
   intro j hj
   have hj:=List.mem_range.1 hj
   unfold Lib.keeps
   simp only [decide_eq_true_eq]
   by_cases e : j = 0
   ·exact .inl e
   ·right
    rw [List.nodup_iff_pairwise_ne,List.pairwise_iff_getElem] at h
    have:=h (j - 1) j (by omega) hj (by omega)
    simpa [hj,show j - 1 < s.length by omega] using fun h=>this h.symm
  rw [h2,List.length_range]
def pN (l : List Int) : Bool:=aF (fun p : Int×Nat=>aF (fun x=>decide (x≠p.1)) (l.take p.2)) l.zipIdx
theorem P6 (l : List Int) : l.Nodup↔pN l = true:=by
 unfold pN
 rw [iF,List.nodup_iff_pairwise_ne,List.pairwise_iff_getElem]
 constructor
 ·rintro h ⟨a,j⟩ hp
  have hp : l[j]? = some a:=List.mem_zipIdx_iff_getElem?.1 hp
  obtain ⟨hj,rfl⟩:=List.getElem?_eq_some_iff.1 hp
  rw [iF]
  intro x hx
  obtain ⟨i,hi,rfl⟩:=List.getElem_of_mem hx
  simp at hi ⊢
  exact h i j (by omega) hj (by omega)
 ·intro h i j hi hj hij
  have:=h (l[j],j) (List.mem_zipIdx_iff_getElem?.2 (by simp))
  rw [iF] at this
  have:=this l[i] (by
   rw [List.mem_iff_getElem]
   exact ⟨i,by simp; omega,by simp⟩)
  simpa using this
noncomputable def v7 (c : Ca) : Bool:=mz c && decide (jd c).Nodup
theorem qa (c : Ca) : c.sent.length≤cr c:=by
 have h : cr c = b8 c.ck + wL bg c.aH + wL bZ c.seen + wL bU c.sent:=rfl
 have:=bt (w:=bU) c.sent
 omega
theorem uY (l : List Rp) : l.flatMap (fun x=>[x.client]) = l.map (fun x=>x.client):=by induction l <;> simp_all
theorem GQ (c : Ca) (hc : cr c≤16000000) (W : List Int) (hW : W.length≤16000000) : aE (ai (ev LI TT) (ak TT) rG) [(1,.ptr .own (cg .af c)),(3,.row .own 1 ((W ++ []).map eI)),(12,.az 1 [] 0 9),(13,.row .af 18 (c.sent.map (bW .af))),(14,.int .i64 c.sent.length),(15,.int .i64 0)] = some (.exit 0,[(1,.ptr .own (cg .af c)),(3,.row .own 1 ((W ++ ((c.sent).flatMap (fun x=>[x.client]))).map eI)),(12,.az 1 [] 0 9),(13,.row .af 18 (c.sent.map (bW .af))),(14,.int .i64 c.sent.length),(15,.int .i64 (c.sent).length),(16,.bool false)]):=by
 refine nv (f:=ai (ev LI TT) (ak TT) rG) (c.sent) (fun x=>[x.client]) (fun i out=>[(1,.ptr .own (cg .af c)),(3,.row .own 1 ((W ++ out).map eI)),(12,.az 1 [] 0 9),(13,.row .af 18 (c.sent.map (bW .af))),(14,.int .i64 c.sent.length),(15,.int .i64 i)]) (fun out=>[(1,.ptr .own (cg .af c)),(3,.row .own 1 ((W ++ out).map eI)),(12,.az 1 [] 0 9),(13,.row .af 18 (c.sent.map (bW .af))),(14,.int .i64 c.sent.length),(15,.int .i64 (c.sent).length),(16,.bool false)]) (fun i b out hi hl hout=>?_) (fun out hout=>?_)
 ·have hw:=aL i (by have:=qa c; omega)
  obtain ⟨_,rfl⟩:=List.getElem?_eq_some_iff.1 hi
  have Ag:=qa c
  have hol : out.length = i:=by subst hout; rw [uY]; simp; omega
  have hlz : (W.length + out.length + 1) * 8≤140737488355328:=by omega
  simp -implicitDefEqProofs [rG,An,hl,hw,hlz,fm,xJ]
 ·simp -implicitDefEqProofs [rG,An]
theorem HL (c : Ca) (hc : cr c≤16000000) (W : List Int) (hW : W.length≤16000000) : aE (ai (ev LI TT) (ak TT) tE) [(1,.ptr .own (cg .af c)),(3,.row .own 1 ((W ++ []).map eI)),(4,.int .i64 0)] = some (.exit 0,[(1,.ptr .own (cg .af c)),(3,.row .own 1 ((W ++ ((c.sent).flatMap (fun x=>[x.client]))).map eI)),(4,.int .i64 (c.sent).length),(16,.bool false)]):=by
 refine nv (f:=ai (ev LI TT) (ak TT) tE) (c.sent) (fun x=>[x.client]) (fun i out=>[(1,.ptr .own (cg .af c)),(3,.row .own 1 ((W ++ out).map eI)),(4,.int .i64 i)]) (fun out=>[(1,.ptr .own (cg .af c)),(3,.row .own 1 ((W ++ out).map eI)),(4,.int .i64 (c.sent).length),(16,.bool false)]) (fun i b out hi hl hout=>?_) (fun out hout=>?_)
 ·have hw:=aL i (by have:=qa c; omega)
  obtain ⟨_,rfl⟩:=List.getElem?_eq_some_iff.1 hi
  have Ag:=qa c
  have hol : out.length = i:=by subst hout; rw [uY]; simp; omega
  have hlz : (W.length + out.length + 1) * 8≤140737488355328:=by omega
  simp -implicitDefEqProofs [tE,BT,hl,hw,hlz,fm,xJ]
 ·simp -implicitDefEqProofs [tE,BT]
theorem HE (l : List Int) (i : Nat) (hi : i < l.length) (hb : l.length≤1073741824) : aE (ai (ev LI TT) (ak TT) pW) [(3,.row .own 1 (l.map eI)),(5,.int .i64 (i : Int)),(6,.int .i64 ((0 : Nat) : Int))] = if aF (fun x=>decide (x≠l[i])) (l.take i) = true then some (.exit 4,[(3,.row .own 1 (l.map eI)),(5,.int .i64 (i : Int)),(6,.int .i64 (((l.take i).length : Nat) : Int)),(36,.bool false)]) else some (.ret,[(2,.bool false)]):=by
 refine cj (f:=ai (ev LI TT) (ak TT) pW) (l.take i) (fun k=>[(3,.row .own 1 (l.map eI)),(5,.int .i64 (i : Int)),(6,.int .i64 ((k : Nat) : Int))]) (fun x=>decide (x≠l[i])) _ _ (fun k b hk hl=>?_) ?_
 ·have iO : k < i:=by simp at hl; omega
  have zZ : k < l.length:=by omega
  have hw:=aL k (by omega)
  obtain ⟨_,rfl⟩:=List.getElem?_eq_some_iff.1 hk
  simp only [List.getElem_take]
  by_cases g : l[k] = l[i]
  ·have g' : l[i] = l[k]:=g.symm
   simp -implicitDefEqProofs [pW,xu,iO,zZ,hi,hw,g]
  ·have g' : ¬ l[i] = l[k]:=fun h=>g h.symm
   simp -implicitDefEqProofs [pW,xu,iO,zZ,hi,hw,g,g']
 ·have : min i l.length = i:=by omega
  simp -implicitDefEqProofs [pW,xu,this]
theorem HF (l : List Int) (hb : l.length≤1073741824) : aE (ai (ev LI TT) (ak TT) tF) [(3,.row .own 1 (l.map eI)),(5,.int .i64 ((0 : Nat) : Int))] = if pN l = true then some (.exit 2,[(3,.row .own 1 (l.map eI)),(5,.int .i64 ((l.zipIdx.length : Nat) : Int)),(31,.bool false)]) else some (.ret,[(2,.bool false)]):=by
 unfold pN
 refine cj (f:=ai (ev LI TT) (ak TT) tF) l.zipIdx (fun k=>[(3,.row .own 1 (l.map eI)),(5,.int .i64 ((k : Nat) : Int))]) (fun p : Int×Nat=>aF (fun x=>decide (x≠p.1)) (l.take p.2)) _ _ (fun k b hk hl=>?_) ?_
 ·have iO : k < l.length:=by simpa using hl
  have hw:=aL k (by omega)
  obtain ⟨_,rfl⟩:=List.getElem?_eq_some_iff.1 hk
  have u1:=HE l k iO hb
  simp only [List.getElem_zipIdx,Nat.zero_add]
  generalize aF (fun x=>decide (x≠l[k])) (l.take k) = q at u1 ⊢
  try simp at u1
  cases q
  all_goals
  simp at u1
  simp -implicitDefEqProofs [tF,BU,iO,hw,u1]
 ·simp -implicitDefEqProofs [tF,BU]
theorem JW (c : Ca) (hc : cr c≤16000000) : ev LI TT 42 [.agg (cg .af c)] = some (.bool (v7 c),[.dead]):=by
 rw [ay (b:=tG) (rs:=[.t 2]) (n:=1) rfl rfl]
 have EH:=u7 (c:=c)
 have hw1:=qn c.aH
 have Ag:=qa c
 unfold v7 jd
 have u1:=JS  c (by omega)
 try simp at u1
 have u2:=J2  c (by omega)
 try simp at u2
 have u3:=HL  c hc (c.aH.flatMap (fun x=>x.who)) (by omega)
 try simp at u3
 have u4:=HF  (c.aH.flatMap (fun x=>x.who) ++ c.sent.map (fun x=>x.client)) (by simp at *; omega)
 try simp at u4
 rw [uY] at u3
 have e:=P6 (c.aH.flatMap (fun x=>x.who) ++ c.sent.map (fun x=>x.client))
 rw [show decide (c.aH.flatMap (fun x=>x.who) ++ c.sent.map (fun x=>x.client)).Nodup = pN (c.aH.flatMap (fun x=>x.who) ++ c.sent.map (fun x=>x.client)) by rw [Bool.eq_iff_iff,decide_eq_true_eq]; exact e]
 try simp only [List.append_nil] at u3
 generalize pN _ = q at u4 ⊢
 cases g : mz c
 ·simp -implicitDefEqProofs [tG,u1,g]
 cases q
 all_goals
 simp -implicitDefEqProofs [tG,u1,u2,u3,u4,g]
 all_goals (repeat' split) <;> first | rfl | omega | (simp_all; done) | (simp_all; omega) | skip
theorem IL (c : Ca) (hc : cr c≤16000000) : ev LI TT 43 [.agg (cg .af c)] = some (.bool (v7 c),[.dead]):=by
 rw [ay (b:=rH) (rs:=[.t 2]) (n:=1) rfl rfl]
 have EH:=u7 (c:=c)
 have hw1:=qn c.aH
 have Ag:=qa c
 have hlen : (jd c).length = c.sent.length + (c.aH.flatMap (fun x=>x.who)).length:=by unfold jd; simp; omega
 unfold v7
 have u1:=IF  c (by omega)
 try simp at u1
 have u2:=I0  c.aH (by omega)
 try simp at u2
 have u3:=GQ  c hc (c.aH.flatMap (fun x=>x.who)) (by omega)
 try simp at u3
 have u4:=Ke  (jd c) (by omega)
 try simp at u4
 have u5:=J7  (eR (jd c)) (by rw [qc]; omega)
 try simp at u5
 rw [uY] at u3
 have e:=Pd (jd c)
 have hcl:=Ds (eR (jd c))
 rw [qc] at hcl
 have EU:=ct (n:=(c.sent.length : Int) + (c.aH.flatMap (fun x=>x.who)).length) (by omega) (by omega)
 rw [List.length_flatMap] at EU
 cases g : mz c
 ·simp -implicitDefEqProofs [rH,u1,g]
 have eo : List.map eI (jd c) = List.map eI (c.aH.flatMap (fun x=>x.who)) ++ List.map (eI ∘ fun x=>x.client) c.sent:=by unfold jd; simp
 rw [eo] at u4
 simp only [← e,hlen]
 generalize Lib.compact (eR (jd c)) = cc at *
 simp -implicitDefEqProofs [rH,u1,u2,u3,u4,u5,g,EU,vD,Ao,Ap,Aq,Ar,As]
 all_goals (repeat' split) <;> first | rfl | omega | (simp_all; done) | (simp_all; omega) | skip
end M
set_option maxHeartbeats 4000000
namespace M
open Go
theorem Ww (a0 : Ca) (k0 : uF a0) : ∃ ps,ev LI TT 9 [.agg (cg .sl a0)] = some (.bool true,ps):=by
 rw [ay (b:=rV) (rs:=[.t 2]) (n:=1) rfl rfl]
 have s0:=Jk a0 1048576 k0 (by omega) (by omega)
 have w0:=aU 1048576 (cr a0)
 obtain ⟨m0,e0⟩ : ∃ m,m = av 1048576 (cr a0):=⟨_,rfl⟩
 rw [← e0] at s0 w0
 try simp at s0
 by_cases z0 : m0 < 0
 ·simp -implicitDefEqProofs [rV,s0,z0]
 have t0:=JB a0 (by omega)
 try simp at t0
 have q0:=I3 a0 a0 (by omega)
 try simp at q0
 have hS:=JW a0 (by omega)
 have hI:=IL a0 (by omega)
 try simp at hS
 try simp at hI
 simp -implicitDefEqProofs [rV,s0,z0,t0,q0,hS,hI]
end M
