/- What the functions come to in the machine; no conditions. -/
import Derived.Test.YtacflkabkpeinaaGreatDoorTab
import Derived.Test.YtacflkabkpeinaaGreatDoorMc
set_option linter.unusedSectionVars false
set_option linter.unusedVariables false
set_option linter.unusedSimpArgs false
namespace M
open Go
theorem Rv (l : List ag) (hlen : l.length≤9223372036854775807) (hb : bL bS l) (n : Int) (hn : 0≤n) (hm : n≤9223372036854775807) : aC (ai (ev LI TT) (aj TT) uw) [(0,.row .af 1 (l.map (eS))),(1,.int .i64 n),(5,.int .i64 0)] = if dU (fun b n=>az n (wS b)) (l) n < 0 then some (.ret,[(4,.int .i64 (-1))]) else some (.exit 0,[(0,.row .af 1 (l.map (eS))),(1,.int .i64 (dU (fun b n=>az n (wS b)) (l) n)),(5,.int .i64 (l).length),(15,.bool false)]):=by
 refine pU (f:=ai (ev LI TT) (aj TT) uw) (l) (fun i n=>[(0,.row .af 1 (l.map (eS))),(1,.int .i64 n),(5,.int .i64 i)]) (fun b n=>az n (wS b)) _ (fun n=>[(0,.row .af 1 (l.map (eS))),(1,.int .i64 n),(5,.int .i64 (l).length),(15,.bool false)]) n hn hm (fun b n=>ql _ n) (fun i b n hi hl hn hm=>?_) (fun n=>?_)
 ·have hw:=aM i (by first | omega | (simp at hl; omega))
  obtain ⟨_,rfl⟩:=List.getElem?_eq_some_iff.1 hi
  have h1 : (l[i]).length≤9223372036854775807:=hb.2 _ (List.getElem_mem hl)
  have h3:=bG n (wS l[i])
  have h4 : wS l[i] = (l[i]).length:=rfl
  obtain ⟨m,e1⟩ : ∃ m,m = n - ((l[i]).length : Int):=⟨_,rfl⟩
  have h2 : IntKind.i64.wrap (n - ((l[i]).length : Int)) = m:=by rw [e1]; exact bz (by omega) (by omega)
  by_cases h5 : m < 0
  ·have ef : az n (wS l[i]) = -1:=by omega
   simp -implicitDefEqProofs [uw,CO,hl,hw,h2,h5,ef]
  have ef : az n (wS l[i]) = m:=by omega
  simp -implicitDefEqProofs [uw,CO,hl,hw,h2,h5,ef]
 ·simp -implicitDefEqProofs [uw,CO]
theorem FG (l : List ag) (n : Int) (hb : bL bS l) (hn : 0≤n) (hm : n≤9223372036854775807) : ev LI TT 219 [.row .af 1 (l.map (eS)),.int .i64 n] = some (.int .i64 (az n (wL wS l)),[.dead,.dead]):=by
 rw [aq (b:=ux) (rs:=[.t 4]) (n:=2) rfl rfl]
 have hl:=hb.1
 have hw : wL wS l = l.length + (l.map wS).sum:=rfl
 have ht:=bG n (wL wS l)
 obtain ⟨m,e1⟩ : ∃ m,m = n - (l.length : Int):=⟨_,rfl⟩
 have h2 : IntKind.i64.wrap (n - (l.length : Int)) = m:=by rw [e1]; exact bz (by omega) (by omega)
 by_cases h : m < 0
 ·have ef : az n (wL wS l) = -1:=by omega
  simp -implicitDefEqProofs [ux,h2,h,ef]
 have h3:=Rv  l hb.1 hb m (by omega) (by omega)
 rw [om _ _ _ (by omega)] at h3
 have hs:=bG m (l.map wS).sum
 obtain ⟨q,e2⟩ : ∃ q,q = az m (l.map wS).sum:=⟨_,rfl⟩
 rw [← e2] at h3 hs
 try simp at h3
 by_cases h4 : q < 0
 ·have ef : az n (wL wS l) = -1:=by omega
  simp only [h4,if_true] at h3
  simp -implicitDefEqProofs [ux,h2,h,h3,ef]
 have ef : az n (wL wS l) = q:=by omega
 simp only [h4,if_false] at h3
 simp -implicitDefEqProofs [ux,h2,h,h3,ef]
 all_goals (repeat' split) <;> first | rfl | omega | (simp_all; done) | (simp_all; omega) | skip
theorem RE (l : List ag) (hlen : l.length≤1048576) (hb : wL wS l≤1048576) : aC (ai (ev LI TT) (aj TT) yt) [(0,.row .af 1 (l.map eS)),(3,.row .own 1 (dw (l.map eS) 0 [.str ⟨#[]⟩])),(4,.int .i64 0),(6,.int .i64 l.length)] = some (.exit 0,[(0,.row .af 1 (l.map eS)),(3,.row .own 1 (l.map eS)),(4,.int .i64 (l).length),(6,.int .i64 l.length),(11,.bool false)]):=by
 refine lF (f:=ai (ev LI TT) (aj TT) yt) (l) (fun i=>[(0,.row .af 1 (l.map eS)),(3,.row .own 1 (dw (l.map eS) i [.str ⟨#[]⟩])),(4,.int .i64 i),(6,.int .i64 l.length)]) _ (fun i b hi hl=>?_) ?_
 ·have hw:=aM i (by first | omega | (simp at hl; omega))
  obtain ⟨_,rfl⟩:=List.getElem?_eq_some_iff.1 hi
  skip
  simp -implicitDefEqProofs [yt,Im,hl,hw]
  first | done | (rw [gH _ _ _ _ (by simpa using hl) (by simp)]; done) | (simp only [nU]; rw [gH _ _ _ _ (by simpa using hl) (by simp)])
 ·simp -implicitDefEqProofs [yt,Im]
theorem FK (l : List ag) (hb : wL wS l≤1048576) : ev LI TT 226 [.row .af 1 (l.map eS)] = some (.row .own 1 (l.map eS),[.dead]):=by
 rw [aq (b:=Da) (rs:=[.t 2]) (n:=1) rfl rfl]
 have hlen:=aY (w:=wS) l
 have h:=RE  l (by omega) hb
 try simp at h
 simp -implicitDefEqProofs [Da,h,(by omega : (l.length : Int) * 16≤140737488355328)]
 all_goals (repeat' split) <;> first | rfl | omega | (simp_all; done) | (simp_all; omega) | skip
theorem Rl (ps : List (ag×ag)) (hb : ps.length≤9223372036854775807) (dh : ∀ x∈ps,wS x.1≤1073741824) : aC (ai (ev LI TT) (aj TT) xY) [(0,.row .af 1 (ps.map (fun x : ag×ag=>eS x.1))),(1,.row .af 1 (ps.map (fun x : ag×ag=>eS x.2))),(5,.int .i64 0)] = if aI b8 (ps) = true then some (.exit 0,[(0,.row .af 1 (ps.map (fun x : ag×ag=>eS x.1))),(1,.row .af 1 (ps.map (fun x : ag×ag=>eS x.2))),(5,.int .i64 ps.length),(14,.bool false)]) else some (.ret,[(4,.bool false)]):=by
 refine cG (f:=ai (ev LI TT) (aj TT) xY) (ps) (fun i=>[(0,.row .af 1 (ps.map (fun x : ag×ag=>eS x.1))),(1,.row .af 1 (ps.map (fun x : ag×ag=>eS x.2))),(5,.int .i64 i)]) b8 _ _ (fun i b hi hl=>?_) ?_
 ·have hw:=aM i (by first | omega | (simp at hl; omega))
  obtain ⟨_,rfl⟩:=List.getElem?_eq_some_iff.1 hi
  simp -implicitDefEqProofs [xY,HY,hl,hw,b8]
  first | done | (split <;> simp_all)
 ·simp -implicitDefEqProofs [xY,HY]
theorem FC (a b : List ag) (hb : wL wS a≤1073741824) : ev LI TT 242 [.row .af 1 (a.map eS),.row .af 1 (b.map eS)] = some (.bool (decide (a = b)),[.dead,.dead]):=by
 rw [aq (b:=CM) (rs:=[.t 4]) (n:=2) rfl rfl]
 simp -implicitDefEqProofs [CM]
 have hlen:=aY (w:=wS) a
 by_cases h : a.length = b.length
 ·obtain ⟨ps,rfl,rfl⟩:=j9 h
  have h1:=Rl  ps (by simp at hlen; omega) (fun x hx=>Nat.le_trans (ew (List.mem_map_of_mem hx)) hb)
  have h2:=jE ps
  simp at h1
  rw [← h2]
  cases h3 : aI b8 ps <;> rw [h3] at h1 <;> simp [h1,Function.comp_def]
 ·have : ¬ a = b:=fun e=>h (by rw [e])
  simp [this]
  omega
theorem Uu (a : Wr) (n : Int) (hb : sQ a) (hn : 0≤n) (hm : n≤9223372036854775807) : ev LI TT 335 [.agg (eW a),.int .i64 n] = some (.int .i64 (az n (bR a)),[.dead,.dead]):=by
 rw [aq (b:=yg) (rs:=[.t 4]) (n:=2) rfl rfl]
 have hw : bR a = a.text.length:=rfl
 have ht:=bG n (bR a)
 have qT : a.text.length≤9223372036854775807:=hb.abr
 obtain ⟨m1,e1⟩ : ∃ m,m = n - (a.text.length : Int):=⟨_,rfl⟩
 have c1 : IntKind.i64.wrap (n - (a.text.length : Int)) = m1:=by rw [e1]; exact bz (by omega) (by omega)
 by_cases h1 : m1 < 0
 ·have ef : az n (bR a) = -1:=by omega
  simp -implicitDefEqProofs [yg,c1,h1,ef]
 have ef : az n (bR a) = m1:=by omega
 simp -implicitDefEqProofs [yg,c1,h1,ef]
 all_goals (repeat' split) <;> first | rfl | omega | (simp_all; done) | (simp_all; omega) | skip
theorem UL (a : Wr) (hb : bR a≤1048576) : ev LI TT 336 [.agg (eW a)] = some (.agg (eW a),[.dead]):=by
 rw [aq (b:=Dc) (rs:=[.c 2 2 true 234]) (n:=1) rfl rfl]
 have hw : bR a = a.text.length:=rfl
 simp -implicitDefEqProofs [Dc,hw]
 all_goals (repeat' split) <;> first | rfl | omega | (simp_all; done) | (simp_all; omega) | skip
theorem Ud (a b : Wr) (hb : bR a≤1073741824) : ev LI TT 346 [.agg (eW a),.agg (eW b)] = some (.bool (decide (a = b)),[.dead,.dead]):=by
 rw [aq (b:=ue) (rs:=[.t 4]) (n:=2) rfl rfl]
 have hw : bR a = a.text.length:=rfl
 rw [V4]
 by_cases g1 : a.at_ = b.at_
 rotate_left
 ·simp -implicitDefEqProofs [ue,eq_false g1]
 by_cases g2 : a.text = b.text
 rotate_left
 ·simp -implicitDefEqProofs [ue,eq_true g1,eq_false g2]
 simp -implicitDefEqProofs [ue,eq_true g1,eq_true g2]
 all_goals (repeat' split) <;> first | rfl | omega | (simp_all; done) | (simp_all; omega) | skip
theorem Rw (l : List Wr) (hlen : l.length≤9223372036854775807) (hb : bL sQ l) (n : Int) (hn : 0≤n) (hm : n≤9223372036854775807) : aC (ai (ev LI TT) (aj TT) yf) [(0,.row .af 2 (l.map (eW))),(1,.int .i64 n),(5,.int .i64 0)] = if dU (fun b n=>az n (bR b)) (l) n < 0 then some (.ret,[(4,.int .i64 (-1))]) else some (.exit 0,[(0,.row .af 2 (l.map (eW))),(1,.int .i64 (dU (fun b n=>az n (bR b)) (l) n)),(5,.int .i64 (l).length),(15,.bool false)]):=by
 refine pU (f:=ai (ev LI TT) (aj TT) yf) (l) (fun i n=>[(0,.row .af 2 (l.map (eW))),(1,.int .i64 n),(5,.int .i64 i)]) (fun b n=>az n (bR b)) _ (fun n=>[(0,.row .af 2 (l.map (eW))),(1,.int .i64 n),(5,.int .i64 (l).length),(15,.bool false)]) n hn hm (fun b n=>ql _ n) (fun i b n hi hl hn hm=>?_) (fun n=>?_)
 ·have hw:=aM i (by first | omega | (simp at hl; omega))
  obtain ⟨_,rfl⟩:=List.getElem?_eq_some_iff.1 hi
  have h2:=Uu  l[i] n (hb.2 _ (List.getElem_mem hl)) hn hm
  obtain ⟨m,e1⟩ : ∃ m,m = az n (bR l[i]):=⟨_,rfl⟩
  rw [← e1] at h2 ⊢
  try simp at h2
  simp -implicitDefEqProofs [yf,Ic,hl,hw,h2]
 ·simp -implicitDefEqProofs [yf,Ic]
theorem Uv (l : List Wr) (n : Int) (hb : bL sQ l) (hn : 0≤n) (hm : n≤9223372036854775807) : ev LI TT 220 [.row .af 2 (l.map (eW)),.int .i64 n] = some (.int .i64 (az n (wL bR l)),[.dead,.dead]):=by
 rw [aq (b:=uy) (rs:=[.t 4]) (n:=2) rfl rfl]
 have hl:=hb.1
 have hw : wL bR l = l.length + (l.map bR).sum:=rfl
 have ht:=bG n (wL bR l)
 obtain ⟨m,e1⟩ : ∃ m,m = n - (l.length : Int):=⟨_,rfl⟩
 have h2 : IntKind.i64.wrap (n - (l.length : Int)) = m:=by rw [e1]; exact bz (by omega) (by omega)
 by_cases h : m < 0
 ·have ef : az n (wL bR l) = -1:=by omega
  simp -implicitDefEqProofs [uy,h2,h,ef]
 have h3:=Rw  l hb.1 hb m (by omega) (by omega)
 rw [om _ _ _ (by omega)] at h3
 have hs:=bG m (l.map bR).sum
 obtain ⟨q,e2⟩ : ∃ q,q = az m (l.map bR).sum:=⟨_,rfl⟩
 rw [← e2] at h3 hs
 try simp at h3
 by_cases h4 : q < 0
 ·have ef : az n (wL bR l) = -1:=by omega
  simp only [h4,if_true] at h3
  simp -implicitDefEqProofs [uy,h2,h,h3,ef]
 have ef : az n (wL bR l) = q:=by omega
 simp only [h4,if_false] at h3
 simp -implicitDefEqProofs [uy,h2,h,h3,ef]
 all_goals (repeat' split) <;> first | rfl | omega | (simp_all; done) | (simp_all; omega) | skip
theorem RF (l : List Wr) (hlen : l.length≤1048576) (hb : wL bR l≤1048576) : aC (ai (ev LI TT) (aj TT) yu) [(0,.row .af 2 (l.map eW)),(3,.row .own 2 (dw (l.map eW) 0 [.int .i64 0,.str ⟨#[]⟩])),(4,.int .i64 0),(6,.int .i64 l.length)] = some (.exit 0,[(0,.row .af 2 (l.map eW)),(3,.row .own 2 (l.map eW)),(4,.int .i64 (l).length),(6,.int .i64 l.length),(11,.bool false)]):=by
 refine lF (f:=ai (ev LI TT) (aj TT) yu) (l) (fun i=>[(0,.row .af 2 (l.map eW)),(3,.row .own 2 (dw (l.map eW) i [.int .i64 0,.str ⟨#[]⟩])),(4,.int .i64 i),(6,.int .i64 l.length)]) _ (fun i b hi hl=>?_) ?_
 ·have hw:=aM i (by first | omega | (simp at hl; omega))
  obtain ⟨_,rfl⟩:=List.getElem?_eq_some_iff.1 hi
  have h:=UL  l[i] (Nat.le_trans (ew (List.getElem_mem hl)) hb)
  try simp at h
  simp -implicitDefEqProofs [yu,Io,hl,hw,h]
  first | done | (rw [gH _ _ _ _ (by simpa using hl) (by simp)]; done) | (simp only [nU]; rw [gH _ _ _ _ (by simpa using hl) (by simp)])
 ·simp -implicitDefEqProofs [yu,Io]
theorem UM (l : List Wr) (hb : wL bR l≤1048576) : ev LI TT 227 [.row .af 2 (l.map eW)] = some (.row .own 2 (l.map eW),[.dead]):=by
 rw [aq (b:=Db) (rs:=[.t 2]) (n:=1) rfl rfl]
 have hlen:=aY (w:=bR) l
 have h:=RF  l (by omega) hb
 try simp at h
 simp -implicitDefEqProofs [Db,h,(by omega : (l.length : Int) * 24≤140737488355328)]
 all_goals (repeat' split) <;> first | rfl | omega | (simp_all; done) | (simp_all; omega) | skip
theorem Rm (ps : List (Wr×Wr)) (hb : ps.length≤9223372036854775807) (dh : ∀ x∈ps,bR x.1≤1073741824) : aC (ai (ev LI TT) (aj TT) xZ) [(0,.row .af 2 (ps.map (fun x : Wr×Wr=>eW x.1))),(1,.row .af 2 (ps.map (fun x : Wr×Wr=>eW x.2))),(5,.int .i64 0)] = if aI b8 (ps) = true then some (.exit 0,[(0,.row .af 2 (ps.map (fun x : Wr×Wr=>eW x.1))),(1,.row .af 2 (ps.map (fun x : Wr×Wr=>eW x.2))),(5,.int .i64 ps.length),(14,.bool false)]) else some (.ret,[(4,.bool false)]):=by
 refine cG (f:=ai (ev LI TT) (aj TT) xZ) (ps) (fun i=>[(0,.row .af 2 (ps.map (fun x : Wr×Wr=>eW x.1))),(1,.row .af 2 (ps.map (fun x : Wr×Wr=>eW x.2))),(5,.int .i64 i)]) b8 _ _ (fun i b hi hl=>?_) ?_
 ·have hw:=aM i (by first | omega | (simp at hl; omega))
  obtain ⟨_,rfl⟩:=List.getElem?_eq_some_iff.1 hi
  have h:=Ud  (ps[i]).1 (ps[i]).2 (dh _ (List.getElem_mem hl)); try simp at h
  simp -implicitDefEqProofs [xZ,HZ,hl,hw,b8,h]
 ·simp -implicitDefEqProofs [xZ,HZ]
theorem Ue (a b : List Wr) (hb : wL bR a≤1073741824) : ev LI TT 243 [.row .af 2 (a.map eW),.row .af 2 (b.map eW)] = some (.bool (decide (a = b)),[.dead,.dead]):=by
 rw [aq (b:=CN) (rs:=[.t 4]) (n:=2) rfl rfl]
 simp -implicitDefEqProofs [CN]
 have hlen:=aY (w:=bR) a
 by_cases h : a.length = b.length
 ·obtain ⟨ps,rfl,rfl⟩:=j9 h
  have h1:=Rm  ps (by simp at hlen; omega) (fun x hx=>Nat.le_trans (ew (List.mem_map_of_mem hx)) hb)
  have h2:=jE ps
  simp at h1
  rw [← h2]
  cases h3 : aI b8 ps <;> rw [h3] at h1 <;> simp [h1,Function.comp_def]
 ·have : ¬ a = b:=fun e=>h (by rw [e])
  simp [this]
  omega
theorem Ui (a : aW) (n : Int) (hb : Fi a) (hn : 0≤n) (hm : n≤9223372036854775807) : ev LI TT 116 [.agg ((bH .af) a),.int .i64 n] = some (.int .i64 (az n (bY a)),[.dead,.dead]):=by
 rw [aq (b:=uh) (rs:=[.t 4]) (n:=2) rfl rfl]
 have hw : bY a = wL wS a.cells + wL bR a.pending:=rfl
 have ht:=bG n (bY a)
 have c1:=FG  a.cells n hb.abe (by omega) (by omega)
 have s1:=bG n (wL wS a.cells)
 obtain ⟨m1,e1⟩ : ∃ m,m = az n (wL wS a.cells):=⟨_,rfl⟩
 rw [← e1] at c1 s1
 try simp at c1
 by_cases h1 : m1 < 0
 ·have ef : az n (bY a) = -1:=by omega
  simp -implicitDefEqProofs [uh,c1,h1,ef]
 have c2:=Uv  a.pending m1 hb.abm (by omega) (by omega)
 have s2:=bG m1 (wL bR a.pending)
 obtain ⟨m2,e2⟩ : ∃ m,m = az m1 (wL bR a.pending):=⟨_,rfl⟩
 rw [← e2] at c2 s2
 try simp at c2
 by_cases h2 : m2 < 0
 ·have ef : az n (bY a) = -1:=by omega
  simp -implicitDefEqProofs [uh,c1,h1,c2,h2,ef]
 have ef : az n (bY a) = m2:=by omega
 simp -implicitDefEqProofs [uh,c1,h1,c2,h2,ef]
 all_goals (repeat' split) <;> first | rfl | omega | (simp_all; done) | (simp_all; omega) | skip
theorem Uz (a : aW) (hb : bY a≤1048576) : ev LI TT 127 [.agg ((bH .af) a)] = some (.agg ((bH .own) a),[.dead]):=by
 rw [aq (b:=CS) (rs:=[.c 2 2 true 38]) (n:=1) rfl rfl]
 have hw : bY a = wL wS a.cells + wL bR a.pending:=rfl
 have h1:=FK  a.cells (by omega)
 try simp at h1
 have h2:=UM  a.pending (by omega)
 try simp at h2
 simp -implicitDefEqProofs [CS,h1,h2,hw]
 all_goals (repeat' split) <;> first | rfl | omega | (simp_all; done) | (simp_all; omega) | skip
theorem TZ (a b : aW) (hb : bY a≤1073741824) : ev LI TT 144 [.agg ((bH .af) a),.agg ((bH .af) b)] = some (.bool (decide (a = b)),[.dead,.dead]):=by
 rw [aq (b:=uc) (rs:=[.t 4]) (n:=2) rfl rfl]
 have hw : bY a = wL wS a.cells + wL bR a.pending:=rfl
 rw [VU]
 have c1:=FC  a.cells b.cells (by omega)
 cases g1 : decide (a.cells = b.cells)
 ·rw [g1] at c1
  try simp at c1
  simp -implicitDefEqProofs [uc,c1]
 rw [g1] at c1
 try simp at c1
 have c2:=Ue  a.pending b.pending (by omega)
 cases g2 : decide (a.pending = b.pending)
 ·rw [g2] at c2
  try simp at c2
  simp -implicitDefEqProofs [uc,c1,c2]
 rw [g2] at c2
 try simp at c2
 simp -implicitDefEqProofs [uc,c1,c2]
 all_goals (repeat' split) <;> first | rfl | omega | (simp_all; done) | (simp_all; omega) | skip
theorem Uj (a : aF) (n : Int) (hb : oE a) (hn : 0≤n) (hm : n≤9223372036854775807) : ev LI TT 306 [.agg (aG a),.int .i64 n] = some (.int .i64 (az n (aJ a)),[.dead,.dead]):=by
 rw [aq (b:=uk) (rs:=[.t 4]) (n:=2) rfl rfl]
 have hw : aJ a = a.name.length + a.value.length:=rfl
 have ht:=bG n (aJ a)
 have qT : a.name.length≤9223372036854775807:=hb.abi
 obtain ⟨m1,e1⟩ : ∃ m,m = n - (a.name.length : Int):=⟨_,rfl⟩
 have c1 : IntKind.i64.wrap (n - (a.name.length : Int)) = m1:=by rw [e1]; exact bz (by omega) (by omega)
 by_cases h1 : m1 < 0
 ·have ef : az n (aJ a) = -1:=by omega
  simp -implicitDefEqProofs [uk,c1,h1,ef]
 have k9 : a.value.length≤9223372036854775807:=hb.abt
 obtain ⟨m2,e2⟩ : ∃ m,m = m1 - (a.value.length : Int):=⟨_,rfl⟩
 have c2 : IntKind.i64.wrap (m1 - (a.value.length : Int)) = m2:=by rw [e2]; exact bz (by omega) (by omega)
 by_cases h2 : m2 < 0
 ·have ef : az n (aJ a) = -1:=by omega
  simp -implicitDefEqProofs [uk,c1,h1,c2,h2,ef]
 have ef : az n (aJ a) = m2:=by omega
 simp -implicitDefEqProofs [uk,c1,h1,c2,h2,ef]
 all_goals (repeat' split) <;> first | rfl | omega | (simp_all; done) | (simp_all; omega) | skip
theorem UA (a : aF) (hb : aJ a≤1048576) : ev LI TT 316 [.agg (aG a)] = some (.agg (aG a),[.dead]):=by
 rw [aq (b:=CU) (rs:=[.c 2 2 true 248]) (n:=1) rfl rfl]
 have hw : aJ a = a.name.length + a.value.length:=rfl
 simp -implicitDefEqProofs [CU,hw]
 all_goals (repeat' split) <;> first | rfl | omega | (simp_all; done) | (simp_all; omega) | skip
theorem T0 (a b : aF) (hb : aJ a≤1073741824) : ev LI TT 327 [.agg (aG a),.agg (aG b)] = some (.bool (decide (a = b)),[.dead,.dead]):=by
 rw [aq (b:=ud) (rs:=[.t 4]) (n:=2) rfl rfl]
 have hw : aJ a = a.name.length + a.value.length:=rfl
 rw [VW]
 by_cases g1 : a.name = b.name
 rotate_left
 ·simp -implicitDefEqProofs [ud,eq_false g1]
 by_cases g2 : a.value = b.value
 rotate_left
 ·simp -implicitDefEqProofs [ud,eq_true g1,eq_false g2]
 simp -implicitDefEqProofs [ud,eq_true g1,eq_true g2]
 all_goals (repeat' split) <;> first | rfl | omega | (simp_all; done) | (simp_all; omega) | skip
theorem Ro (l : List aF) (hlen : l.length≤9223372036854775807) (hb : bL oE l) (n : Int) (hn : 0≤n) (hm : n≤9223372036854775807) : aC (ai (ev LI TT) (aj TT) x8) [(0,.row .af 2 (l.map (aG))),(1,.int .i64 n),(5,.int .i64 0)] = if dU (fun b n=>az n (aJ b)) (l) n < 0 then some (.ret,[(4,.int .i64 (-1))]) else some (.exit 0,[(0,.row .af 2 (l.map (aG))),(1,.int .i64 (dU (fun b n=>az n (aJ b)) (l) n)),(5,.int .i64 (l).length),(15,.bool false)]):=by
 refine pU (f:=ai (ev LI TT) (aj TT) x8) (l) (fun i n=>[(0,.row .af 2 (l.map (aG))),(1,.int .i64 n),(5,.int .i64 i)]) (fun b n=>az n (aJ b)) _ (fun n=>[(0,.row .af 2 (l.map (aG))),(1,.int .i64 n),(5,.int .i64 (l).length),(15,.bool false)]) n hn hm (fun b n=>ql _ n) (fun i b n hi hl hn hm=>?_) (fun n=>?_)
 ·have hw:=aM i (by first | omega | (simp at hl; omega))
  obtain ⟨_,rfl⟩:=List.getElem?_eq_some_iff.1 hi
  have h2:=Uj  l[i] n (hb.2 _ (List.getElem_mem hl)) hn hm
  obtain ⟨m,e1⟩ : ∃ m,m = az n (aJ l[i]):=⟨_,rfl⟩
  rw [← e1] at h2 ⊢
  try simp at h2
  simp -implicitDefEqProofs [x8,H7,hl,hw,h2]
 ·simp -implicitDefEqProofs [x8,H7]
theorem K6 (l : List aF) (n : Int) (hb : bL oE l) (hn : 0≤n) (hm : n≤9223372036854775807) : ev LI TT 198 [.row .af 2 (l.map (aG)),.int .i64 n] = some (.int .i64 (az n (wL aJ l)),[.dead,.dead]):=by
 rw [aq (b:=uj) (rs:=[.t 4]) (n:=2) rfl rfl]
 have hl:=hb.1
 have hw : wL aJ l = l.length + (l.map aJ).sum:=rfl
 have ht:=bG n (wL aJ l)
 obtain ⟨m,e1⟩ : ∃ m,m = n - (l.length : Int):=⟨_,rfl⟩
 have h2 : IntKind.i64.wrap (n - (l.length : Int)) = m:=by rw [e1]; exact bz (by omega) (by omega)
 by_cases h : m < 0
 ·have ef : az n (wL aJ l) = -1:=by omega
  simp -implicitDefEqProofs [uj,h2,h,ef]
 have h3:=Ro  l hb.1 hb m (by omega) (by omega)
 rw [om _ _ _ (by omega)] at h3
 have hs:=bG m (l.map aJ).sum
 obtain ⟨q,e2⟩ : ∃ q,q = az m (l.map aJ).sum:=⟨_,rfl⟩
 rw [← e2] at h3 hs
 try simp at h3
 by_cases h4 : q < 0
 ·have ef : az n (wL aJ l) = -1:=by omega
  simp only [h4,if_true] at h3
  simp -implicitDefEqProofs [uj,h2,h,h3,ef]
 have ef : az n (wL aJ l) = q:=by omega
 simp only [h4,if_false] at h3
 simp -implicitDefEqProofs [uj,h2,h,h3,ef]
 all_goals (repeat' split) <;> first | rfl | omega | (simp_all; done) | (simp_all; omega) | skip
theorem Ry (l : List aF) (hlen : l.length≤1048576) (hb : wL aJ l≤1048576) : aC (ai (ev LI TT) (aj TT) yj) [(0,.row .af 2 (l.map aG)),(3,.row .own 2 (dw (l.map aG) 0 [.str ⟨#[]⟩,.str ⟨#[]⟩])),(4,.int .i64 0),(6,.int .i64 l.length)] = some (.exit 0,[(0,.row .af 2 (l.map aG)),(3,.row .own 2 (l.map aG)),(4,.int .i64 (l).length),(6,.int .i64 l.length),(11,.bool false)]):=by
 refine lF (f:=ai (ev LI TT) (aj TT) yj) (l) (fun i=>[(0,.row .af 2 (l.map aG)),(3,.row .own 2 (dw (l.map aG) i [.str ⟨#[]⟩,.str ⟨#[]⟩])),(4,.int .i64 i),(6,.int .i64 l.length)]) _ (fun i b hi hl=>?_) ?_
 ·have hw:=aM i (by first | omega | (simp at hl; omega))
  obtain ⟨_,rfl⟩:=List.getElem?_eq_some_iff.1 hi
  have h:=UA  l[i] (Nat.le_trans (ew (List.getElem_mem hl)) hb)
  try simp at h
  simp -implicitDefEqProofs [yj,Ig,hl,hw,h]
  first | done | (rw [gH _ _ _ _ (by simpa using hl) (by simp)]; done) | (simp only [nU]; rw [gH _ _ _ _ (by simpa using hl) (by simp)])
 ·simp -implicitDefEqProofs [yj,Ig]
theorem K7 (l : List aF) (hb : wL aJ l≤1048576) : ev LI TT 203 [.row .af 2 (l.map aG)] = some (.row .own 2 (l.map aG),[.dead]):=by
 rw [aq (b:=CT) (rs:=[.t 2]) (n:=1) rfl rfl]
 have hlen:=aY (w:=aJ) l
 have h:=Ry  l (by omega) hb
 try simp at h
 simp -implicitDefEqProofs [CT,h,(by omega : (l.length : Int) * 32≤140737488355328)]
 all_goals (repeat' split) <;> first | rfl | omega | (simp_all; done) | (simp_all; omega) | skip
theorem Rf (ps : List (aF×aF)) (hb : ps.length≤9223372036854775807) (dh : ∀ x∈ps,aJ x.1≤1073741824) : aC (ai (ev LI TT) (aj TT) xS) [(0,.row .af 2 (ps.map (fun x : aF×aF=>aG x.1))),(1,.row .af 2 (ps.map (fun x : aF×aF=>aG x.2))),(5,.int .i64 0)] = if aI b8 (ps) = true then some (.exit 0,[(0,.row .af 2 (ps.map (fun x : aF×aF=>aG x.1))),(1,.row .af 2 (ps.map (fun x : aF×aF=>aG x.2))),(5,.int .i64 ps.length),(14,.bool false)]) else some (.ret,[(4,.bool false)]):=by
 refine cG (f:=ai (ev LI TT) (aj TT) xS) (ps) (fun i=>[(0,.row .af 2 (ps.map (fun x : aF×aF=>aG x.1))),(1,.row .af 2 (ps.map (fun x : aF×aF=>aG x.2))),(5,.int .i64 i)]) b8 _ _ (fun i b hi hl=>?_) ?_
 ·have hw:=aM i (by first | omega | (simp at hl; omega))
  obtain ⟨_,rfl⟩:=List.getElem?_eq_some_iff.1 hi
  have h:=T0  (ps[i]).1 (ps[i]).2 (dh _ (List.getElem_mem hl)); try simp at h
  simp -implicitDefEqProofs [xS,HS,hl,hw,b8,h]
 ·simp -implicitDefEqProofs [xS,HS]
theorem K5 (a b : List aF) (hb : wL aJ a≤1073741824) : ev LI TT 208 [.row .af 2 (a.map aG),.row .af 2 (b.map aG)] = some (.bool (decide (a = b)),[.dead,.dead]):=by
 rw [aq (b:=CG) (rs:=[.t 4]) (n:=2) rfl rfl]
 simp -implicitDefEqProofs [CG]
 have hlen:=aY (w:=aJ) a
 by_cases h : a.length = b.length
 ·obtain ⟨ps,rfl,rfl⟩:=j9 h
  have h1:=Rf  ps (by simp at hlen; omega) (fun x hx=>Nat.le_trans (ew (List.mem_map_of_mem hx)) hb)
  have h2:=jE ps
  simp at h1
  rw [← h2]
  cases h3 : aI b8 ps <;> rw [h3] at h1 <;> simp [h1,Function.comp_def]
 ·have : ¬ a = b:=fun e=>h (by rw [e])
  simp [this]
  omega
theorem FF (a : bP) (n : Int) (hb : sO a) (hn : 0≤n) (hm : n≤9223372036854775807) : ev LI TT 92 [.agg ((gG .af) a),.int .i64 n] = some (.int .i64 (az n (bp a)),[.dead,.dead]):=by
 rw [aq (b:=ur) (rs:=[.t 4]) (n:=2) rfl rfl]
 have hw : bp a = wL aJ a.fields + a.body.length:=rfl
 have ht:=bG n (bp a)
 have c1:=K6  a.fields n hb.HK (by omega) (by omega)
 have s1:=bG n (wL aJ a.fields)
 obtain ⟨m1,e1⟩ : ∃ m,m = az n (wL aJ a.fields):=⟨_,rfl⟩
 rw [← e1] at c1 s1
 try simp at c1
 by_cases h1 : m1 < 0
 ·have ef : az n (bp a) = -1:=by omega
  simp -implicitDefEqProofs [ur,c1,h1,ef]
 have k9 : a.body.length≤9223372036854775807:=hb.HJ
 obtain ⟨m2,e2⟩ : ∃ m,m = m1 - (a.body.length : Int):=⟨_,rfl⟩
 have c2 : IntKind.i64.wrap (m1 - (a.body.length : Int)) = m2:=by rw [e2]; exact bz (by omega) (by omega)
 by_cases h2 : m2 < 0
 ·have ef : az n (bp a) = -1:=by omega
  simp -implicitDefEqProofs [ur,c1,h1,c2,h2,ef]
 have ef : az n (bp a) = m2:=by omega
 simp -implicitDefEqProofs [ur,c1,h1,c2,h2,ef]
 all_goals (repeat' split) <;> first | rfl | omega | (simp_all; done) | (simp_all; omega) | skip
theorem FJ (a : bP) (hb : bp a≤1048576) : ev LI TT 98 [.agg ((gG .af) a)] = some (.agg ((gG .own) a),[.dead]):=by
 rw [aq (b:=C6) (rs:=[.c 2 3 true 74]) (n:=1) rfl rfl]
 have hw : bp a = wL aJ a.fields + a.body.length:=rfl
 have h1:=K7  a.fields (by omega)
 try simp at h1
 simp -implicitDefEqProofs [C6,h1,hw]
 all_goals (repeat' split) <;> first | rfl | omega | (simp_all; done) | (simp_all; omega) | skip
theorem FB (a b : bP) (hb : bp a≤1073741824) : ev LI TT 104 [.agg ((gG .af) a),.agg ((gG .af) b)] = some (.bool (decide (a = b)),[.dead,.dead]):=by
 rw [aq (b:=rF) (rs:=[.t 4]) (n:=2) rfl rfl]
 have hw : bp a = wL aJ a.fields + a.body.length:=rfl
 rw [V1]
 by_cases g1 : a.status = b.status
 rotate_left
 ·simp -implicitDefEqProofs [rF,eq_false g1]
 have c2:=K5  a.fields b.fields (by omega)
 cases g2 : decide (a.fields = b.fields)
 ·rw [g2] at c2
  try simp at c2
  simp -implicitDefEqProofs [rF,eq_true g1,c2]
 rw [g2] at c2
 try simp at c2
 by_cases g3 : a.body = b.body
 rotate_left
 ·simp -implicitDefEqProofs [rF,eq_true g1,c2,eq_false g3]
 simp -implicitDefEqProofs [rF,eq_true g1,c2,eq_true g3]
 all_goals (repeat' split) <;> first | rfl | omega | (simp_all; done) | (simp_all; omega) | skip
theorem FD (a : Ob) (n : Int) (hb : vT a) (hn : 0≤n) (hm : n≤9223372036854775807) : ev LI TT 223 [.agg ((bn .af) a),.int .i64 n] = some (.int .i64 (az n (aV a)),[.dead,.dead]):=by
 rw [aq (b:=pS) (rs:=[.t 4]) (n:=2) rfl rfl]
 have hw : aV a = a.path.length + wL wS a.names + wL wS a.values + bp a.resp:=rfl
 have ht:=bG n (aV a)
 have qT : a.path.length≤9223372036854775807:=hb.HM
 obtain ⟨m1,e1⟩ : ∃ m,m = n - (a.path.length : Int):=⟨_,rfl⟩
 have c1 : IntKind.i64.wrap (n - (a.path.length : Int)) = m1:=by rw [e1]; exact bz (by omega) (by omega)
 by_cases h1 : m1 < 0
 ·have ef : az n (aV a) = -1:=by omega
  simp -implicitDefEqProofs [pS,c1,h1,ef]
 have c2:=FG  a.names m1 hb.abj (by omega) (by omega)
 have s2:=bG m1 (wL wS a.names)
 obtain ⟨m2,e2⟩ : ∃ m,m = az m1 (wL wS a.names):=⟨_,rfl⟩
 rw [← e2] at c2 s2
 try simp at c2
 by_cases h2 : m2 < 0
 ·have ef : az n (aV a) = -1:=by omega
  simp -implicitDefEqProofs [pS,c1,h1,c2,h2,ef]
 have c3:=FG  a.values m2 hb.abu (by omega) (by omega)
 have s3:=bG m2 (wL wS a.values)
 obtain ⟨m3,e3⟩ : ∃ m,m = az m2 (wL wS a.values):=⟨_,rfl⟩
 rw [← e3] at c3 s3
 try simp at c3
 by_cases h3 : m3 < 0
 ·have ef : az n (aV a) = -1:=by omega
  simp -implicitDefEqProofs [pS,c1,h1,c2,h2,c3,h3,ef]
 have c4:=FF  a.resp m3 hb.tY (by omega) (by omega)
 have s4:=bG m3 (bp a.resp)
 obtain ⟨m4,e4⟩ : ∃ m,m = az m3 (bp a.resp):=⟨_,rfl⟩
 rw [← e4] at c4 s4
 try simp at c4
 by_cases h4 : m4 < 0
 ·have ef : az n (aV a) = -1:=by omega
  simp -implicitDefEqProofs [pS,c1,h1,c2,h2,c3,h3,c4,h4,ef]
 have ef : az n (aV a) = m4:=by omega
 simp -implicitDefEqProofs [pS,c1,h1,c2,h2,c3,h3,c4,h4,ef]
 all_goals (repeat' split) <;> first | rfl | omega | (simp_all; done) | (simp_all; omega) | skip
theorem FH (a : Ob) (hb : aV a≤1048576) : ev LI TT 230 [.agg ((bn .af) a)] = some (.agg ((bn .own) a),[.dead]):=by
 rw [aq (b:=C0) (rs:=[.c 2 7 true 116]) (n:=1) rfl rfl]
 have hw : aV a = a.path.length + wL wS a.names + wL wS a.values + bp a.resp:=rfl
 have h1:=FK  a.names (by omega)
 try simp at h1
 have h2:=FK  a.values (by omega)
 try simp at h2
 have h3:=FJ  a.resp (by omega)
 try simp at h3
 simp -implicitDefEqProofs [C0,h1,h2,h3,hw]
 all_goals (repeat' split) <;> first | rfl | omega | (simp_all; done) | (simp_all; omega) | skip
theorem Fz (a b : Ob) (hb : aV a≤1073741824) : ev LI TT 245 [.agg ((bn .af) a),.agg ((bn .af) b)] = some (.bool (decide (a = b)),[.dead,.dead]):=by
 rw [aq (b:=nQ) (rs:=[.t 4]) (n:=2) rfl rfl]
 have hw : aV a = a.path.length + wL wS a.names + wL wS a.values + bp a.resp:=rfl
 rw [VY]
 by_cases g1 : a.path = b.path
 rotate_left
 ·simp -implicitDefEqProofs [nQ,eq_false g1]
 have c2:=FC  a.names b.names (by omega)
 cases g2 : decide (a.names = b.names)
 ·rw [g2] at c2
  try simp at c2
  simp -implicitDefEqProofs [nQ,eq_true g1,c2]
 rw [g2] at c2
 try simp at c2
 have c3:=FC  a.values b.values (by omega)
 cases g3 : decide (a.values = b.values)
 ·rw [g3] at c3
  try simp at c3
  simp -implicitDefEqProofs [nQ,eq_true g1,c2,c3]
 rw [g3] at c3
 try simp at c3
 have c4:=FB  a.resp b.resp (by omega)
 cases g4 : decide (a.resp = b.resp)
 ·rw [g4] at c4
  try simp at c4
  simp -implicitDefEqProofs [nQ,eq_true g1,c2,c3,c4]
 rw [g4] at c4
 try simp at c4
 by_cases g5 : a.t = b.t
 rotate_left
 ·simp -implicitDefEqProofs [nQ,eq_true g1,c2,c3,c4,eq_false g5]
 simp -implicitDefEqProofs [nQ,eq_true g1,c2,c3,c4,eq_true g5]
 all_goals (repeat' split) <;> first | rfl | omega | (simp_all; done) | (simp_all; omega) | skip
theorem Un (a : Kp) (n : Int) (hb : sL a) (hn : 0≤n) (hm : n≤9223372036854775807) : ev LI TT 221 [.agg ((aB .af) a),.int .i64 n] = some (.int .i64 (az n (bE a)),[.dead,.dead]):=by
 rw [aq (b:=yc) (rs:=[.t 4]) (n:=2) rfl rfl]
 have hw : bE a = aV a.obj:=rfl
 have ht:=bG n (bE a)
 have c1:=FD  a.obj n hb.HL (by omega) (by omega)
 have s1:=bG n (aV a.obj)
 obtain ⟨m1,e1⟩ : ∃ m,m = az n (aV a.obj):=⟨_,rfl⟩
 rw [← e1] at c1 s1
 try simp at c1
 by_cases h1 : m1 < 0
 ·have ef : az n (bE a) = -1:=by omega
  simp -implicitDefEqProofs [yc,c1,h1,ef]
 have ef : az n (bE a) = m1:=by omega
 simp -implicitDefEqProofs [yc,c1,h1,ef]
 all_goals (repeat' split) <;> first | rfl | omega | (simp_all; done) | (simp_all; omega) | skip
theorem UE (a : Kp) (hb : bE a≤1048576) : ev LI TT 228 [.agg ((aB .af) a)] = some (.agg ((aB .own) a),[.dead]):=by
 rw [aq (b:=CZ) (rs:=[.c 2 9 true 126]) (n:=1) rfl rfl]
 have hw : bE a = aV a.obj:=rfl
 have h1:=FH  a.obj (by omega)
 try simp at h1
 simp -implicitDefEqProofs [CZ,h1,hw]
 all_goals (repeat' split) <;> first | rfl | omega | (simp_all; done) | (simp_all; omega) | skip
theorem T6 (a b : Kp) (hb : bE a≤1073741824) : ev LI TT 244 [.agg ((aB .af) a),.agg ((aB .af) b)] = some (.bool (decide (a = b)),[.dead,.dead]):=by
 rw [aq (b:=rE) (rs:=[.t 4]) (n:=2) rfl rfl]
 have hw : bE a = aV a.obj:=rfl
 rw [VX]
 have c1:=Fz  a.obj b.obj (by omega)
 cases g1 : decide (a.obj = b.obj)
 ·rw [g1] at c1
  try simp at c1
  simp -implicitDefEqProofs [rE,c1]
 rw [g1] at c1
 try simp at c1
 by_cases g2 : a.at_ = b.at_
 rotate_left
 ·simp -implicitDefEqProofs [rE,c1,eq_false g2]
 by_cases g3 : a.seq = b.seq
 rotate_left
 ·simp -implicitDefEqProofs [rE,c1,eq_true g2,eq_false g3]
 simp -implicitDefEqProofs [rE,c1,eq_true g2,eq_true g3]
 all_goals (repeat' split) <;> first | rfl | omega | (simp_all; done) | (simp_all; omega) | skip
theorem Rs (l : List Kp) (hlen : l.length≤9223372036854775807) (hb : bL sL l) (n : Int) (hn : 0≤n) (hm : n≤9223372036854775807) : aC (ai (ev LI TT) (aj TT) yb) [(0,.row .af 9 (l.map (aB .af))),(1,.int .i64 n),(5,.int .i64 0)] = if dU (fun b n=>az n (bE b)) (l) n < 0 then some (.ret,[(4,.int .i64 (-1))]) else some (.exit 0,[(0,.row .af 9 (l.map (aB .af))),(1,.int .i64 (dU (fun b n=>az n (bE b)) (l) n)),(5,.int .i64 (l).length),(15,.bool false)]):=by
 refine pU (f:=ai (ev LI TT) (aj TT) yb) (l) (fun i n=>[(0,.row .af 9 (l.map (aB .af))),(1,.int .i64 n),(5,.int .i64 i)]) (fun b n=>az n (bE b)) _ (fun n=>[(0,.row .af 9 (l.map (aB .af))),(1,.int .i64 n),(5,.int .i64 (l).length),(15,.bool false)]) n hn hm (fun b n=>ql _ n) (fun i b n hi hl hn hm=>?_) (fun n=>?_)
 ·have hw:=aM i (by first | omega | (simp at hl; omega))
  obtain ⟨_,rfl⟩:=List.getElem?_eq_some_iff.1 hi
  have h2:=Un  l[i] n (hb.2 _ (List.getElem_mem hl)) hn hm
  obtain ⟨m,e1⟩ : ∃ m,m = az n (bE l[i]):=⟨_,rfl⟩
  rw [← e1] at h2 ⊢
  try simp at h2
  simp -implicitDefEqProofs [yb,H9,hl,hw,h2]
 ·simp -implicitDefEqProofs [yb,H9]
theorem Uo (l : List Kp) (n : Int) (hb : bL sL l) (hn : 0≤n) (hm : n≤9223372036854775807) : ev LI TT 117 [.row .af 9 (l.map (aB .af)),.int .i64 n] = some (.int .i64 (az n (wL bE l)),[.dead,.dead]):=by
 rw [aq (b:=uo) (rs:=[.t 4]) (n:=2) rfl rfl]
 have hl:=hb.1
 have hw : wL bE l = l.length + (l.map bE).sum:=rfl
 have ht:=bG n (wL bE l)
 obtain ⟨m,e1⟩ : ∃ m,m = n - (l.length : Int):=⟨_,rfl⟩
 have h2 : IntKind.i64.wrap (n - (l.length : Int)) = m:=by rw [e1]; exact bz (by omega) (by omega)
 by_cases h : m < 0
 ·have ef : az n (wL bE l) = -1:=by omega
  simp -implicitDefEqProofs [uo,h2,h,ef]
 have h3:=Rs  l hb.1 hb m (by omega) (by omega)
 rw [om _ _ _ (by omega)] at h3
 have hs:=bG m (l.map bE).sum
 obtain ⟨q,e2⟩ : ∃ q,q = az m (l.map bE).sum:=⟨_,rfl⟩
 rw [← e2] at h3 hs
 try simp at h3
 by_cases h4 : q < 0
 ·have ef : az n (wL bE l) = -1:=by omega
  simp only [h4,if_true] at h3
  simp -implicitDefEqProofs [uo,h2,h,h3,ef]
 have ef : az n (wL bE l) = q:=by omega
 simp only [h4,if_false] at h3
 simp -implicitDefEqProofs [uo,h2,h,h3,ef]
 all_goals (repeat' split) <;> first | rfl | omega | (simp_all; done) | (simp_all; omega) | skip
theorem RB (l : List Kp) (hlen : l.length≤1048576) (hb : wL bE l≤1048576) : aC (ai (ev LI TT) (aj TT) yo) [(0,.row .af 9 (l.map (aB .af))),(3,.row .own 9 (dw (l.map (aB .own)) 0 [.str ⟨#[]⟩,.row .own 1 [],.row .own 1 [],.int .i64 0,.row .own 2 [],.str ⟨#[]⟩,.int .i64 0,.int .i64 0,.int .i64 0])),(4,.int .i64 0),(6,.int .i64 l.length)] = some (.exit 0,[(0,.row .af 9 (l.map (aB .af))),(3,.row .own 9 (l.map (aB .own))),(4,.int .i64 (l).length),(6,.int .i64 l.length),(11,.bool false)]):=by
 refine lF (f:=ai (ev LI TT) (aj TT) yo) (l) (fun i=>[(0,.row .af 9 (l.map (aB .af))),(3,.row .own 9 (dw (l.map (aB .own)) i [.str ⟨#[]⟩,.row .own 1 [],.row .own 1 [],.int .i64 0,.row .own 2 [],.str ⟨#[]⟩,.int .i64 0,.int .i64 0,.int .i64 0])),(4,.int .i64 i),(6,.int .i64 l.length)]) _ (fun i b hi hl=>?_) ?_
 ·have hw:=aM i (by first | omega | (simp at hl; omega))
  obtain ⟨_,rfl⟩:=List.getElem?_eq_some_iff.1 hi
  have h:=UE  l[i] (Nat.le_trans (ew (List.getElem_mem hl)) hb)
  try simp at h
  simp -implicitDefEqProofs [yo,Ij,hl,hw,h]
  first | done | (rw [gH _ _ _ _ (by simpa using hl) (by simp)]; done) | (simp only [nU]; rw [gH _ _ _ _ (by simpa using hl) (by simp)])
 ·simp -implicitDefEqProofs [yo,Ij]
theorem UF (l : List Kp) (hb : wL bE l≤1048576) : ev LI TT 128 [.row .af 9 (l.map (aB .af))] = some (.row .own 9 (l.map (aB .own)),[.dead]):=by
 rw [aq (b:=CY) (rs:=[.t 2]) (n:=1) rfl rfl]
 have hlen:=aY (w:=bE) l
 have h:=RB  l (by omega) hb
 try simp at h
 simp -implicitDefEqProofs [CY,h,(by omega : (l.length : Int) * 136≤140737488355328)]
 all_goals (repeat' split) <;> first | rfl | omega | (simp_all; done) | (simp_all; omega) | skip
theorem Ri (ps : List (Kp×Kp)) (hb : ps.length≤9223372036854775807) (dh : ∀ x∈ps,bE x.1≤1073741824) : aC (ai (ev LI TT) (aj TT) xV) [(0,.row .af 9 (ps.map (fun x : Kp×Kp=>(aB .af) x.1))),(1,.row .af 9 (ps.map (fun x : Kp×Kp=>(aB .af) x.2))),(5,.int .i64 0)] = if aI b8 (ps) = true then some (.exit 0,[(0,.row .af 9 (ps.map (fun x : Kp×Kp=>(aB .af) x.1))),(1,.row .af 9 (ps.map (fun x : Kp×Kp=>(aB .af) x.2))),(5,.int .i64 ps.length),(14,.bool false)]) else some (.ret,[(4,.bool false)]):=by
 refine cG (f:=ai (ev LI TT) (aj TT) xV) (ps) (fun i=>[(0,.row .af 9 (ps.map (fun x : Kp×Kp=>(aB .af) x.1))),(1,.row .af 9 (ps.map (fun x : Kp×Kp=>(aB .af) x.2))),(5,.int .i64 i)]) b8 _ _ (fun i b hi hl=>?_) ?_
 ·have hw:=aM i (by first | omega | (simp at hl; omega))
  obtain ⟨_,rfl⟩:=List.getElem?_eq_some_iff.1 hi
  have h:=T6  (ps[i]).1 (ps[i]).2 (dh _ (List.getElem_mem hl)); try simp at h
  simp -implicitDefEqProofs [xV,HV,hl,hw,b8,h]
 ·simp -implicitDefEqProofs [xV,HV]
theorem T7 (a b : List Kp) (hb : wL bE a≤1073741824) : ev LI TT 145 [.row .af 9 (a.map (aB .af)),.row .af 9 (b.map (aB .af))] = some (.bool (decide (a = b)),[.dead,.dead]):=by
 rw [aq (b:=CJ) (rs:=[.t 4]) (n:=2) rfl rfl]
 simp -implicitDefEqProofs [CJ]
 have hlen:=aY (w:=bE) a
 by_cases h : a.length = b.length
 ·obtain ⟨ps,rfl,rfl⟩:=j9 h
  have h1:=Ri  ps (by simp at hlen; omega) (fun x hx=>Nat.le_trans (ew (List.mem_map_of_mem hx)) hb)
  have h2:=jE ps
  simp at h1
  rw [← h2]
  cases h3 : aI b8 ps <;> rw [h3] at h1 <;> simp [h1,Function.comp_def]
 ·have : ¬ a = b:=fun e=>h (by rw [e])
  simp [this]
  omega
theorem Uf (a : Bn) (n : Int) (hb : qA a) (hn : 0≤n) (hm : n≤9223372036854775807) : ev LI TT 93 [.agg (aS a),.int .i64 n] = some (.int .i64 (az n (aR a)),[.dead,.dead]):=by
 rw [aq (b:=ug) (rs:=[.t 4]) (n:=2) rfl rfl]
 have hw : aR a = a.a.length + a.b.length:=rfl
 have ht:=bG n (aR a)
 have qT : a.a.length≤9223372036854775807:=hb.NN
 obtain ⟨m1,e1⟩ : ∃ m,m = n - (a.a.length : Int):=⟨_,rfl⟩
 have c1 : IntKind.i64.wrap (n - (a.a.length : Int)) = m1:=by rw [e1]; exact bz (by omega) (by omega)
 by_cases h1 : m1 < 0
 ·have ef : az n (aR a) = -1:=by omega
  simp -implicitDefEqProofs [ug,c1,h1,ef]
 have k9 : a.b.length≤9223372036854775807:=hb.k_b
 obtain ⟨m2,e2⟩ : ∃ m,m = m1 - (a.b.length : Int):=⟨_,rfl⟩
 have c2 : IntKind.i64.wrap (m1 - (a.b.length : Int)) = m2:=by rw [e2]; exact bz (by omega) (by omega)
 by_cases h2 : m2 < 0
 ·have ef : az n (aR a) = -1:=by omega
  simp -implicitDefEqProofs [ug,c1,h1,c2,h2,ef]
 have ef : az n (aR a) = m2:=by omega
 simp -implicitDefEqProofs [ug,c1,h1,c2,h2,ef]
 all_goals (repeat' split) <;> first | rfl | omega | (simp_all; done) | (simp_all; omega) | skip
theorem Uw (a : Bn) (hb : aR a≤1048576) : ev LI TT 99 [.agg (aS a)] = some (.agg (aS a),[.dead]):=by
 rw [aq (b:=CQ) (rs:=[.c 2 4 true 75]) (n:=1) rfl rfl]
 have hw : aR a = a.a.length + a.b.length:=rfl
 simp -implicitDefEqProofs [CQ,hw]
 all_goals (repeat' split) <;> first | rfl | omega | (simp_all; done) | (simp_all; omega) | skip
theorem TW (a b : Bn) (hb : aR a≤1073741824) : ev LI TT 105 [.agg (aS a),.agg (aS b)] = some (.bool (decide (a = b)),[.dead,.dead]):=by
 rw [aq (b:=pO) (rs:=[.t 4]) (n:=2) rfl rfl]
 have hw : aR a = a.a.length + a.b.length:=rfl
 rw [VS]
 by_cases g1 : a.kind = b.kind
 rotate_left
 ·simp -implicitDefEqProofs [pO,eq_false g1]
 by_cases g2 : a.a = b.a
 rotate_left
 ·simp -implicitDefEqProofs [pO,eq_true g1,eq_false g2]
 by_cases g3 : a.b = b.b
 rotate_left
 ·simp -implicitDefEqProofs [pO,eq_true g1,eq_true g2,eq_false g3]
 by_cases g4 : a.t = b.t
 rotate_left
 ·simp -implicitDefEqProofs [pO,eq_true g1,eq_true g2,eq_true g3,eq_false g4]
 simp -implicitDefEqProofs [pO,eq_true g1,eq_true g2,eq_true g3,eq_true g4]
 all_goals (repeat' split) <;> first | rfl | omega | (simp_all; done) | (simp_all; omega) | skip
theorem Rn (l : List Bn) (hlen : l.length≤9223372036854775807) (hb : bL qA l) (n : Int) (hn : 0≤n) (hm : n≤9223372036854775807) : aC (ai (ev LI TT) (aj TT) x7) [(0,.row .af 4 (l.map (aS))),(1,.int .i64 n),(5,.int .i64 0)] = if dU (fun b n=>az n (aR b)) (l) n < 0 then some (.ret,[(4,.int .i64 (-1))]) else some (.exit 0,[(0,.row .af 4 (l.map (aS))),(1,.int .i64 (dU (fun b n=>az n (aR b)) (l) n)),(5,.int .i64 (l).length),(15,.bool false)]):=by
 refine pU (f:=ai (ev LI TT) (aj TT) x7) (l) (fun i n=>[(0,.row .af 4 (l.map (aS))),(1,.int .i64 n),(5,.int .i64 i)]) (fun b n=>az n (aR b)) _ (fun n=>[(0,.row .af 4 (l.map (aS))),(1,.int .i64 n),(5,.int .i64 (l).length),(15,.bool false)]) n hn hm (fun b n=>ql _ n) (fun i b n hi hl hn hm=>?_) (fun n=>?_)
 ·have hw:=aM i (by first | omega | (simp at hl; omega))
  obtain ⟨_,rfl⟩:=List.getElem?_eq_some_iff.1 hi
  have h2:=Uf  l[i] n (hb.2 _ (List.getElem_mem hl)) hn hm
  obtain ⟨m,e1⟩ : ∃ m,m = az n (aR l[i]):=⟨_,rfl⟩
  rw [← e1] at h2 ⊢
  try simp at h2
  simp -implicitDefEqProofs [x7,H6,hl,hw,h2]
 ·simp -implicitDefEqProofs [x7,H6]
theorem Ug (l : List Bn) (n : Int) (hb : bL qA l) (hn : 0≤n) (hm : n≤9223372036854775807) : ev LI TT 118 [.row .af 4 (l.map (aS)),.int .i64 n] = some (.int .i64 (az n (wL aR l)),[.dead,.dead]):=by
 rw [aq (b:=uf) (rs:=[.t 4]) (n:=2) rfl rfl]
 have hl:=hb.1
 have hw : wL aR l = l.length + (l.map aR).sum:=rfl
 have ht:=bG n (wL aR l)
 obtain ⟨m,e1⟩ : ∃ m,m = n - (l.length : Int):=⟨_,rfl⟩
 have h2 : IntKind.i64.wrap (n - (l.length : Int)) = m:=by rw [e1]; exact bz (by omega) (by omega)
 by_cases h : m < 0
 ·have ef : az n (wL aR l) = -1:=by omega
  simp -implicitDefEqProofs [uf,h2,h,ef]
 have h3:=Rn  l hb.1 hb m (by omega) (by omega)
 rw [om _ _ _ (by omega)] at h3
 have hs:=bG m (l.map aR).sum
 obtain ⟨q,e2⟩ : ∃ q,q = az m (l.map aR).sum:=⟨_,rfl⟩
 rw [← e2] at h3 hs
 try simp at h3
 by_cases h4 : q < 0
 ·have ef : az n (wL aR l) = -1:=by omega
  simp only [h4,if_true] at h3
  simp -implicitDefEqProofs [uf,h2,h,h3,ef]
 have ef : az n (wL aR l) = q:=by omega
 simp only [h4,if_false] at h3
 simp -implicitDefEqProofs [uf,h2,h,h3,ef]
 all_goals (repeat' split) <;> first | rfl | omega | (simp_all; done) | (simp_all; omega) | skip
theorem Rx (l : List Bn) (hlen : l.length≤1048576) (hb : wL aR l≤1048576) : aC (ai (ev LI TT) (aj TT) yh) [(0,.row .af 4 (l.map aS)),(3,.row .own 4 (dw (l.map aS) 0 [.int .i64 0,.str ⟨#[]⟩,.str ⟨#[]⟩,.int .i64 0])),(4,.int .i64 0),(6,.int .i64 l.length)] = some (.exit 0,[(0,.row .af 4 (l.map aS)),(3,.row .own 4 (l.map aS)),(4,.int .i64 (l).length),(6,.int .i64 l.length),(11,.bool false)]):=by
 refine lF (f:=ai (ev LI TT) (aj TT) yh) (l) (fun i=>[(0,.row .af 4 (l.map aS)),(3,.row .own 4 (dw (l.map aS) i [.int .i64 0,.str ⟨#[]⟩,.str ⟨#[]⟩,.int .i64 0])),(4,.int .i64 i),(6,.int .i64 l.length)]) _ (fun i b hi hl=>?_) ?_
 ·have hw:=aM i (by first | omega | (simp at hl; omega))
  obtain ⟨_,rfl⟩:=List.getElem?_eq_some_iff.1 hi
  have h:=Uw  l[i] (Nat.le_trans (ew (List.getElem_mem hl)) hb)
  try simp at h
  simp -implicitDefEqProofs [yh,Ie,hl,hw,h]
  first | done | (rw [gH _ _ _ _ (by simpa using hl) (by simp)]; done) | (simp only [nU]; rw [gH _ _ _ _ (by simpa using hl) (by simp)])
 ·simp -implicitDefEqProofs [yh,Ie]
theorem Ux (l : List Bn) (hb : wL aR l≤1048576) : ev LI TT 129 [.row .af 4 (l.map aS)] = some (.row .own 4 (l.map aS),[.dead]):=by
 rw [aq (b:=CP) (rs:=[.t 2]) (n:=1) rfl rfl]
 have hlen:=aY (w:=aR) l
 have h:=Rx  l (by omega) hb
 try simp at h
 simp -implicitDefEqProofs [CP,h,(by omega : (l.length : Int) * 48≤140737488355328)]
 all_goals (repeat' split) <;> first | rfl | omega | (simp_all; done) | (simp_all; omega) | skip
theorem Re (ps : List (Bn×Bn)) (hb : ps.length≤9223372036854775807) (dh : ∀ x∈ps,aR x.1≤1073741824) : aC (ai (ev LI TT) (aj TT) xR) [(0,.row .af 4 (ps.map (fun x : Bn×Bn=>aS x.1))),(1,.row .af 4 (ps.map (fun x : Bn×Bn=>aS x.2))),(5,.int .i64 0)] = if aI b8 (ps) = true then some (.exit 0,[(0,.row .af 4 (ps.map (fun x : Bn×Bn=>aS x.1))),(1,.row .af 4 (ps.map (fun x : Bn×Bn=>aS x.2))),(5,.int .i64 ps.length),(14,.bool false)]) else some (.ret,[(4,.bool false)]):=by
 refine cG (f:=ai (ev LI TT) (aj TT) xR) (ps) (fun i=>[(0,.row .af 4 (ps.map (fun x : Bn×Bn=>aS x.1))),(1,.row .af 4 (ps.map (fun x : Bn×Bn=>aS x.2))),(5,.int .i64 i)]) b8 _ _ (fun i b hi hl=>?_) ?_
 ·have hw:=aM i (by first | omega | (simp at hl; omega))
  obtain ⟨_,rfl⟩:=List.getElem?_eq_some_iff.1 hi
  have h:=TW  (ps[i]).1 (ps[i]).2 (dh _ (List.getElem_mem hl)); try simp at h
  simp -implicitDefEqProofs [xR,HR,hl,hw,b8,h]
 ·simp -implicitDefEqProofs [xR,HR]
theorem TX (a b : List Bn) (hb : wL aR a≤1073741824) : ev LI TT 146 [.row .af 4 (a.map aS),.row .af 4 (b.map aS)] = some (.bool (decide (a = b)),[.dead,.dead]):=by
 rw [aq (b:=CF) (rs:=[.t 4]) (n:=2) rfl rfl]
 simp -implicitDefEqProofs [CF]
 have hlen:=aY (w:=aR) a
 by_cases h : a.length = b.length
 ·obtain ⟨ps,rfl,rfl⟩:=j9 h
  have h1:=Re  ps (by simp at hlen; omega) (fun x hx=>Nat.le_trans (ew (List.mem_map_of_mem hx)) hb)
  have h2:=jE ps
  simp at h1
  rw [← h2]
  cases h3 : aI b8 ps <;> rw [h3] at h1 <;> simp [h1,Function.comp_def]
 ·have : ¬ a = b:=fun e=>h (by rw [e])
  simp [this]
  omega
theorem Ut (a : Sh) (n : Int) (hb : Fj a) (hn : 0≤n) (hm : n≤9223372036854775807) : ev LI TT 43 [.agg ((aH .af) a),.int .i64 n] = some (.int .i64 (az n (bT a)),[.dead,.dead]):=by
 rw [aq (b:=rK) (rs:=[.t 4]) (n:=2) rfl rfl]
 have hw : bT a = bY a.aL + wL bE a.av + wL aR a.aQ:=rfl
 have ht:=bG n (bT a)
 have c1:=Ui  a.aL n hb.abg (by omega) (by omega)
 have s1:=bG n (bY a.aL)
 obtain ⟨m1,e1⟩ : ∃ m,m = az n (bY a.aL):=⟨_,rfl⟩
 rw [← e1] at c1 s1
 try simp at c1
 by_cases h1 : m1 < 0
 ·have ef : az n (bT a) = -1:=by omega
  simp -implicitDefEqProofs [rK,c1,h1,ef]
 have c2:=Uo  a.av m1 hb.abk (by omega) (by omega)
 have s2:=bG m1 (wL bE a.av)
 obtain ⟨m2,e2⟩ : ∃ m,m = az m1 (wL bE a.av):=⟨_,rfl⟩
 rw [← e2] at c2 s2
 try simp at c2
 by_cases h2 : m2 < 0
 ·have ef : az n (bT a) = -1:=by omega
  simp -implicitDefEqProofs [rK,c1,h1,c2,h2,ef]
 have c3:=Ug  a.aQ m2 hb.NO (by omega) (by omega)
 have s3:=bG m2 (wL aR a.aQ)
 obtain ⟨m3,e3⟩ : ∃ m,m = az m2 (wL aR a.aQ):=⟨_,rfl⟩
 rw [← e3] at c3 s3
 try simp at c3
 by_cases h3 : m3 < 0
 ·have ef : az n (bT a) = -1:=by omega
  simp -implicitDefEqProofs [rK,c1,h1,c2,h2,c3,h3,ef]
 have ef : az n (bT a) = m3:=by omega
 simp -implicitDefEqProofs [rK,c1,h1,c2,h2,c3,h3,ef]
 all_goals (repeat' split) <;> first | rfl | omega | (simp_all; done) | (simp_all; omega) | skip
theorem UK (a : Sh) (hb : bT a≤1048576) : ev LI TT 48 [.agg ((aH .af) a)] = some (.agg ((aH .own) a),[.dead]):=by
 rw [aq (b:=C9) (rs:=[.c 2 6 true 42]) (n:=1) rfl rfl]
 have hw : bT a = bY a.aL + wL bE a.av + wL aR a.aQ:=rfl
 have h1:=Uz  a.aL (by omega)
 try simp at h1
 have h2:=UF  a.av (by omega)
 try simp at h2
 have h3:=Ux  a.aQ (by omega)
 try simp at h3
 simp -implicitDefEqProofs [C9,h1,h2,h3,hw]
 all_goals (repeat' split) <;> first | rfl | omega | (simp_all; done) | (simp_all; omega) | skip
theorem Uc (a b : Sh) (hb : bT a≤1073741824) : ev LI TT 55 [.agg ((aH .af) a),.agg ((aH .af) b)] = some (.bool (decide (a = b)),[.dead,.dead]):=by
 rw [aq (b:=nR) (rs:=[.t 4]) (n:=2) rfl rfl]
 have hw : bT a = bY a.aL + wL bE a.av + wL aR a.aQ:=rfl
 rw [V3]
 have c1:=TZ  a.aL b.aL (by omega)
 cases g1 : decide (a.aL = b.aL)
 ·rw [g1] at c1
  try simp at c1
  simp -implicitDefEqProofs [nR,c1]
 rw [g1] at c1
 try simp at c1
 have c2:=T7  a.av b.av (by omega)
 cases g2 : decide (a.av = b.av)
 ·rw [g2] at c2
  try simp at c2
  simp -implicitDefEqProofs [nR,c1,c2]
 rw [g2] at c2
 try simp at c2
 have c3:=TX  a.aQ b.aQ (by omega)
 cases g3 : decide (a.aQ = b.aQ)
 ·rw [g3] at c3
  try simp at c3
  simp -implicitDefEqProofs [nR,c1,c2,c3]
 rw [g3] at c3
 try simp at c3
 by_cases g4 : a.next = b.next
 rotate_left
 ·simp -implicitDefEqProofs [nR,c1,c2,c3,eq_false g4]
 by_cases g5 : a.seq = b.seq
 rotate_left
 ·simp -implicitDefEqProofs [nR,c1,c2,c3,eq_true g4,eq_false g5]
 simp -implicitDefEqProofs [nR,c1,c2,c3,eq_true g4,eq_true g5]
 all_goals (repeat' split) <;> first | rfl | omega | (simp_all; done) | (simp_all; omega) | skip
theorem FE (a : Rq) (n : Int) (hb : sN a) (hn : 0≤n) (hm : n≤9223372036854775807) : ev LI TT 91 [.agg ((gY .af) a),.int .i64 n] = some (.int .i64 (az n (cq a)),[.dead,.dead]):=by
 rw [aq (b:=rJ) (rs:=[.t 4]) (n:=2) rfl rfl]
 have hw : cq a = a.path.length + wL aJ a.fields + a.body.length:=rfl
 have ht:=bG n (cq a)
 have qT : a.path.length≤9223372036854775807:=hb.HM
 obtain ⟨m1,e1⟩ : ∃ m,m = n - (a.path.length : Int):=⟨_,rfl⟩
 have c1 : IntKind.i64.wrap (n - (a.path.length : Int)) = m1:=by rw [e1]; exact bz (by omega) (by omega)
 by_cases h1 : m1 < 0
 ·have ef : az n (cq a) = -1:=by omega
  simp -implicitDefEqProofs [rJ,c1,h1,ef]
 have c2:=K6  a.fields m1 hb.HK (by omega) (by omega)
 have s2:=bG m1 (wL aJ a.fields)
 obtain ⟨m2,e2⟩ : ∃ m,m = az m1 (wL aJ a.fields):=⟨_,rfl⟩
 rw [← e2] at c2 s2
 try simp at c2
 by_cases h2 : m2 < 0
 ·have ef : az n (cq a) = -1:=by omega
  simp -implicitDefEqProofs [rJ,c1,h1,c2,h2,ef]
 have tB : a.body.length≤9223372036854775807:=hb.HJ
 obtain ⟨m3,e3⟩ : ∃ m,m = m2 - (a.body.length : Int):=⟨_,rfl⟩
 have c3 : IntKind.i64.wrap (m2 - (a.body.length : Int)) = m3:=by rw [e3]; exact bz (by omega) (by omega)
 by_cases h3 : m3 < 0
 ·have ef : az n (cq a) = -1:=by omega
  simp -implicitDefEqProofs [rJ,c1,h1,c2,h2,c3,h3,ef]
 have ef : az n (cq a) = m3:=by omega
 simp -implicitDefEqProofs [rJ,c1,h1,c2,h2,c3,h3,ef]
 all_goals (repeat' split) <;> first | rfl | omega | (simp_all; done) | (simp_all; omega) | skip
theorem FI (a : Rq) (hb : cq a≤1048576) : ev LI TT 97 [.agg ((gY .af) a)] = some (.agg ((gY .own) a),[.dead]):=by
 rw [aq (b:=C5) (rs:=[.c 2 4 true 72]) (n:=1) rfl rfl]
 have hw : cq a = a.path.length + wL aJ a.fields + a.body.length:=rfl
 have h1:=K7  a.fields (by omega)
 try simp at h1
 simp -implicitDefEqProofs [C5,h1,hw]
 all_goals (repeat' split) <;> first | rfl | omega | (simp_all; done) | (simp_all; omega) | skip
theorem FA (a b : Rq) (hb : cq a≤1073741824) : ev LI TT 103 [.agg ((gY .af) a),.agg ((gY .af) b)] = some (.bool (decide (a = b)),[.dead,.dead]):=by
 rw [aq (b:=pQ) (rs:=[.t 4]) (n:=2) rfl rfl]
 have hw : cq a = a.path.length + wL aJ a.fields + a.body.length:=rfl
 rw [V0]
 by_cases g1 : a.method = b.method
 rotate_left
 ·simp -implicitDefEqProofs [pQ,eq_false g1]
 by_cases g2 : a.path = b.path
 rotate_left
 ·simp -implicitDefEqProofs [pQ,eq_true g1,eq_false g2]
 have c3:=K5  a.fields b.fields (by omega)
 cases g3 : decide (a.fields = b.fields)
 ·rw [g3] at c3
  try simp at c3
  simp -implicitDefEqProofs [pQ,eq_true g1,eq_true g2,c3]
 rw [g3] at c3
 try simp at c3
 by_cases g4 : a.body = b.body
 rotate_left
 ·simp -implicitDefEqProofs [pQ,eq_true g1,eq_true g2,c3,eq_false g4]
 simp -implicitDefEqProofs [pQ,eq_true g1,eq_true g2,c3,eq_true g4]
 all_goals (repeat' split) <;> first | rfl | omega | (simp_all; done) | (simp_all; omega) | skip
theorem Um (l : List Int) (n : Int) (hb : l.length≤9223372036854775807) (hn : 0≤n) (hm : n≤9223372036854775807) : ev LI TT 222 [.row .af 1 (l.map eI),.int .i64 n] = some (.int .i64 (az n (wL wO l)),[.dead,.dead]):=by
 rw [aq (b:=ya) (rs:=[.t 4]) (n:=2) rfl rfl]
 have hw : wL wO l = l.length:=by simp [wL,wO]; clear hb; induction l <;> simp_all [wO]
 have ht:=bG n (wL wO l)
 obtain ⟨m,e1⟩ : ∃ m,m = n - (l.length : Int):=⟨_,rfl⟩
 have h2 : IntKind.i64.wrap (n - (l.length : Int)) = m:=by rw [e1]; exact bz (by omega) (by omega)
 by_cases h : m < 0
 ·have ef : az n (wL wO l) = -1:=by omega
  simp -implicitDefEqProofs [ya,h2,h,ef]
 have ef : az n (wL wO l) = m:=by omega
 simp -implicitDefEqProofs [ya,h2,h,ef]
 all_goals (repeat' split) <;> first | rfl | omega | (simp_all; done) | (simp_all; omega) | skip
theorem RA (l : List Int) (hlen : l.length≤1048576) (hb : wL wO l≤1048576) : aC (ai (ev LI TT) (aj TT) ym) [(0,.row .af 1 (l.map eI)),(3,.row .own 1 (dw (l.map eI) 0 [.int .i64 0])),(4,.int .i64 0),(6,.int .i64 l.length)] = some (.exit 0,[(0,.row .af 1 (l.map eI)),(3,.row .own 1 (l.map eI)),(4,.int .i64 (l).length),(6,.int .i64 l.length),(11,.bool false)]):=by
 refine lF (f:=ai (ev LI TT) (aj TT) ym) (l) (fun i=>[(0,.row .af 1 (l.map eI)),(3,.row .own 1 (dw (l.map eI) i [.int .i64 0])),(4,.int .i64 i),(6,.int .i64 l.length)]) _ (fun i b hi hl=>?_) ?_
 ·have hw:=aM i (by first | omega | (simp at hl; omega))
  obtain ⟨_,rfl⟩:=List.getElem?_eq_some_iff.1 hi
  skip
  simp -implicitDefEqProofs [ym,Ii,hl,hw]
  first | done | (rw [gH _ _ _ _ (by simpa using hl) (by simp)]; done) | (simp only [nU]; rw [gH _ _ _ _ (by simpa using hl) (by simp)])
 ·simp -implicitDefEqProofs [ym,Ii]
theorem UD (l : List Int) (hb : wL wO l≤1048576) : ev LI TT 229 [.row .af 1 (l.map eI)] = some (.row .own 1 (l.map eI),[.dead]):=by
 rw [aq (b:=CX) (rs:=[.t 2]) (n:=1) rfl rfl]
 have hlen:=aY (w:=wO) l
 have h:=RA  l (by omega) hb
 try simp at h
 simp -implicitDefEqProofs [CX,h,(by omega : (l.length : Int) * 8≤140737488355328)]
 all_goals (repeat' split) <;> first | rfl | omega | (simp_all; done) | (simp_all; omega) | skip
theorem Rh (ps : List (Int×Int)) (hb : ps.length≤9223372036854775807) (dh : ∀ x∈ps,wO x.1≤1073741824) : aC (ai (ev LI TT) (aj TT) xU) [(0,.row .af 1 (ps.map (fun x : Int×Int=>eI x.1))),(1,.row .af 1 (ps.map (fun x : Int×Int=>eI x.2))),(5,.int .i64 0)] = if aI b8 (ps) = true then some (.exit 0,[(0,.row .af 1 (ps.map (fun x : Int×Int=>eI x.1))),(1,.row .af 1 (ps.map (fun x : Int×Int=>eI x.2))),(5,.int .i64 ps.length),(14,.bool false)]) else some (.ret,[(4,.bool false)]):=by
 refine cG (f:=ai (ev LI TT) (aj TT) xU) (ps) (fun i=>[(0,.row .af 1 (ps.map (fun x : Int×Int=>eI x.1))),(1,.row .af 1 (ps.map (fun x : Int×Int=>eI x.2))),(5,.int .i64 i)]) b8 _ _ (fun i b hi hl=>?_) ?_
 ·have hw:=aM i (by first | omega | (simp at hl; omega))
  obtain ⟨_,rfl⟩:=List.getElem?_eq_some_iff.1 hi
  simp -implicitDefEqProofs [xU,HU,hl,hw,b8]
  first | done | (split <;> simp_all)
 ·simp -implicitDefEqProofs [xU,HU]
theorem T5 (a b : List Int) (hb : wL wO a≤1073741824) : ev LI TT 36 [.row .af 1 (a.map eI),.row .af 1 (b.map eI)] = some (.bool (decide (a = b)),[.dead,.dead]):=by
 rw [aq (b:=CI) (rs:=[.t 4]) (n:=2) rfl rfl]
 simp -implicitDefEqProofs [CI]
 have hlen:=aY (w:=wO) a
 by_cases h : a.length = b.length
 ·obtain ⟨ps,rfl,rfl⟩:=j9 h
  have h1:=Rh  ps (by simp at hlen; omega) (fun x hx=>Nat.le_trans (ew (List.mem_map_of_mem hx)) hb)
  have h2:=jE ps
  simp at h1
  rw [← h2]
  cases h3 : aI b8 ps <;> rw [h3] at h1 <;> simp [h1,Function.comp_def]
 ·have : ¬ a = b:=fun e=>h (by rw [e])
  simp [this]
  omega
theorem Uk (a : Fl) (n : Int) (hb : sK a) (hn : 0≤n) (hm : n≤9223372036854775807) : ev LI TT 119 [.agg ((bM .af) a),.int .i64 n] = some (.int .i64 (az n (b9 a)),[.dead,.dead]):=by
 rw [aq (b:=rH) (rs:=[.t 4]) (n:=2) rfl rfl]
 have hw : b9 a = cq a.q + wL wO a.who + aV a.old:=rfl
 have ht:=bG n (b9 a)
 have c1:=FE  a.q n hb.tX (by omega) (by omega)
 have s1:=bG n (cq a.q)
 obtain ⟨m1,e1⟩ : ∃ m,m = az n (cq a.q):=⟨_,rfl⟩
 rw [← e1] at c1 s1
 try simp at c1
 by_cases h1 : m1 < 0
 ·have ef : az n (b9 a) = -1:=by omega
  simp -implicitDefEqProofs [rH,c1,h1,ef]
 have c2:=Um  a.who m1 hb.abv.1 (by omega) (by omega)
 have s2:=bG m1 (wL wO a.who)
 obtain ⟨m2,e2⟩ : ∃ m,m = az m1 (wL wO a.who):=⟨_,rfl⟩
 rw [← e2] at c2 s2
 try simp at c2
 by_cases h2 : m2 < 0
 ·have ef : az n (b9 a) = -1:=by omega
  simp -implicitDefEqProofs [rH,c1,h1,c2,h2,ef]
 have c3:=FD  a.old m2 hb.abl (by omega) (by omega)
 have s3:=bG m2 (aV a.old)
 obtain ⟨m3,e3⟩ : ∃ m,m = az m2 (aV a.old):=⟨_,rfl⟩
 rw [← e3] at c3 s3
 try simp at c3
 by_cases h3 : m3 < 0
 ·have ef : az n (b9 a) = -1:=by omega
  simp -implicitDefEqProofs [rH,c1,h1,c2,h2,c3,h3,ef]
 have ef : az n (b9 a) = m3:=by omega
 simp -implicitDefEqProofs [rH,c1,h1,c2,h2,c3,h3,ef]
 all_goals (repeat' split) <;> first | rfl | omega | (simp_all; done) | (simp_all; omega) | skip
theorem UB (a : Fl) (hb : b9 a≤1048576) : ev LI TT 130 [.agg ((bM .af) a)] = some (.agg ((bM .own) a),[.dead]):=by
 rw [aq (b:=CW) (rs:=[.c 2 13 true 181]) (n:=1) rfl rfl]
 have hw : b9 a = cq a.q + wL wO a.who + aV a.old:=rfl
 have h1:=FI  a.q (by omega)
 try simp at h1
 have h2:=UD  a.who (by omega)
 try simp at h2
 have h3:=FH  a.old (by omega)
 try simp at h3
 simp -implicitDefEqProofs [CW,h1,h2,h3,hw]
 all_goals (repeat' split) <;> first | rfl | omega | (simp_all; done) | (simp_all; omega) | skip
theorem T3 (a b : Fl) (hb : b9 a≤1073741824) : ev LI TT 147 [.agg ((bM .af) a),.agg ((bM .af) b)] = some (.bool (decide (a = b)),[.dead,.dead]):=by
 rw [aq (b:=pP) (rs:=[.t 4]) (n:=2) rfl rfl]
 have hw : b9 a = cq a.q + wL wO a.who + aV a.old:=rfl
 rw [VV]
 have c1:=FA  a.q b.q (by omega)
 cases g1 : decide (a.q = b.q)
 ·rw [g1] at c1
  try simp at c1
  simp -implicitDefEqProofs [pP,c1]
 rw [g1] at c1
 try simp at c1
 have c2:=T5  a.who b.who (by omega)
 cases g2 : decide (a.who = b.who)
 ·rw [g2] at c2
  try simp at c2
  simp -implicitDefEqProofs [pP,c1,c2]
 rw [g2] at c2
 try simp at c2
 have c3:=Fz  a.old b.old (by omega)
 cases g3 : decide (a.old = b.old)
 ·rw [g3] at c3
  try simp at c3
  simp -implicitDefEqProofs [pP,c1,c2,c3]
 rw [g3] at c3
 try simp at c3
 by_cases g4 : a.mj = b.mj
 rotate_left
 ·simp -implicitDefEqProofs [pP,c1,c2,c3,eq_false g4]
 simp -implicitDefEqProofs [pP,c1,c2,c3,eq_true g4]
 all_goals (repeat' split) <;> first | rfl | omega | (simp_all; done) | (simp_all; omega) | skip
theorem Rr (l : List Fl) (hlen : l.length≤9223372036854775807) (hb : bL sK l) (n : Int) (hn : 0≤n) (hm : n≤9223372036854775807) : aC (ai (ev LI TT) (aj TT) x9) [(0,.row .af 13 (l.map (bM .af))),(1,.int .i64 n),(5,.int .i64 0)] = if dU (fun b n=>az n (b9 b)) (l) n < 0 then some (.ret,[(4,.int .i64 (-1))]) else some (.exit 0,[(0,.row .af 13 (l.map (bM .af))),(1,.int .i64 (dU (fun b n=>az n (b9 b)) (l) n)),(5,.int .i64 (l).length),(15,.bool false)]):=by
 refine pU (f:=ai (ev LI TT) (aj TT) x9) (l) (fun i n=>[(0,.row .af 13 (l.map (bM .af))),(1,.int .i64 n),(5,.int .i64 i)]) (fun b n=>az n (b9 b)) _ (fun n=>[(0,.row .af 13 (l.map (bM .af))),(1,.int .i64 n),(5,.int .i64 (l).length),(15,.bool false)]) n hn hm (fun b n=>ql _ n) (fun i b n hi hl hn hm=>?_) (fun n=>?_)
 ·have hw:=aM i (by first | omega | (simp at hl; omega))
  obtain ⟨_,rfl⟩:=List.getElem?_eq_some_iff.1 hi
  have h2:=Uk  l[i] n (hb.2 _ (List.getElem_mem hl)) hn hm
  obtain ⟨m,e1⟩ : ∃ m,m = az n (b9 l[i]):=⟨_,rfl⟩
  rw [← e1] at h2 ⊢
  try simp at h2
  simp -implicitDefEqProofs [x9,H8,hl,hw,h2]
 ·simp -implicitDefEqProofs [x9,H8]
theorem Ul (l : List Fl) (n : Int) (hb : bL sK l) (hn : 0≤n) (hm : n≤9223372036854775807) : ev LI TT 44 [.row .af 13 (l.map (bM .af)),.int .i64 n] = some (.int .i64 (az n (wL b9 l)),[.dead,.dead]):=by
 rw [aq (b:=um) (rs:=[.t 4]) (n:=2) rfl rfl]
 have hl:=hb.1
 have hw : wL b9 l = l.length + (l.map b9).sum:=rfl
 have ht:=bG n (wL b9 l)
 obtain ⟨m,e1⟩ : ∃ m,m = n - (l.length : Int):=⟨_,rfl⟩
 have h2 : IntKind.i64.wrap (n - (l.length : Int)) = m:=by rw [e1]; exact bz (by omega) (by omega)
 by_cases h : m < 0
 ·have ef : az n (wL b9 l) = -1:=by omega
  simp -implicitDefEqProofs [um,h2,h,ef]
 have h3:=Rr  l hb.1 hb m (by omega) (by omega)
 rw [om _ _ _ (by omega)] at h3
 have hs:=bG m (l.map b9).sum
 obtain ⟨q,e2⟩ : ∃ q,q = az m (l.map b9).sum:=⟨_,rfl⟩
 rw [← e2] at h3 hs
 try simp at h3
 by_cases h4 : q < 0
 ·have ef : az n (wL b9 l) = -1:=by omega
  simp only [h4,if_true] at h3
  simp -implicitDefEqProofs [um,h2,h,h3,ef]
 have ef : az n (wL b9 l) = q:=by omega
 simp only [h4,if_false] at h3
 simp -implicitDefEqProofs [um,h2,h,h3,ef]
 all_goals (repeat' split) <;> first | rfl | omega | (simp_all; done) | (simp_all; omega) | skip
theorem Rz (l : List Fl) (hlen : l.length≤1048576) (hb : wL b9 l≤1048576) : aC (ai (ev LI TT) (aj TT) yl) [(0,.row .af 13 (l.map (bM .af))),(3,.row .own 13 (dw (l.map (bM .own)) 0 [.int .i64 0,.str ⟨#[]⟩,.row .own 2 [],.str ⟨#[]⟩,.row .own 1 [],.str ⟨#[]⟩,.row .own 1 [],.row .own 1 [],.int .i64 0,.row .own 2 [],.str ⟨#[]⟩,.int .i64 0,.bool false])),(4,.int .i64 0),(6,.int .i64 l.length)] = some (.exit 0,[(0,.row .af 13 (l.map (bM .af))),(3,.row .own 13 (l.map (bM .own))),(4,.int .i64 (l).length),(6,.int .i64 l.length),(11,.bool false)]):=by
 refine lF (f:=ai (ev LI TT) (aj TT) yl) (l) (fun i=>[(0,.row .af 13 (l.map (bM .af))),(3,.row .own 13 (dw (l.map (bM .own)) i [.int .i64 0,.str ⟨#[]⟩,.row .own 2 [],.str ⟨#[]⟩,.row .own 1 [],.str ⟨#[]⟩,.row .own 1 [],.row .own 1 [],.int .i64 0,.row .own 2 [],.str ⟨#[]⟩,.int .i64 0,.bool false])),(4,.int .i64 i),(6,.int .i64 l.length)]) _ (fun i b hi hl=>?_) ?_
 ·have hw:=aM i (by first | omega | (simp at hl; omega))
  obtain ⟨_,rfl⟩:=List.getElem?_eq_some_iff.1 hi
  have h:=UB  l[i] (Nat.le_trans (ew (List.getElem_mem hl)) hb)
  try simp at h
  simp -implicitDefEqProofs [yl,Ih,hl,hw,h]
  first | done | (rw [gH _ _ _ _ (by simpa using hl) (by simp)]; done) | (simp only [nU]; rw [gH _ _ _ _ (by simpa using hl) (by simp)])
 ·simp -implicitDefEqProofs [yl,Ih]
theorem UC (l : List Fl) (hb : wL b9 l≤1048576) : ev LI TT 49 [.row .af 13 (l.map (bM .af))] = some (.row .own 13 (l.map (bM .own)),[.dead]):=by
 rw [aq (b:=CV) (rs:=[.t 2]) (n:=1) rfl rfl]
 have hlen:=aY (w:=b9) l
 have h:=Rz  l (by omega) hb
 try simp at h
 simp -implicitDefEqProofs [CV,h,(by omega : (l.length : Int) * 216≤140737488355328)]
 all_goals (repeat' split) <;> first | rfl | omega | (simp_all; done) | (simp_all; omega) | skip
theorem Rg (ps : List (Fl×Fl)) (hb : ps.length≤9223372036854775807) (dh : ∀ x∈ps,b9 x.1≤1073741824) : aC (ai (ev LI TT) (aj TT) xT) [(0,.row .af 13 (ps.map (fun x : Fl×Fl=>(bM .af) x.1))),(1,.row .af 13 (ps.map (fun x : Fl×Fl=>(bM .af) x.2))),(5,.int .i64 0)] = if aI b8 (ps) = true then some (.exit 0,[(0,.row .af 13 (ps.map (fun x : Fl×Fl=>(bM .af) x.1))),(1,.row .af 13 (ps.map (fun x : Fl×Fl=>(bM .af) x.2))),(5,.int .i64 ps.length),(14,.bool false)]) else some (.ret,[(4,.bool false)]):=by
 refine cG (f:=ai (ev LI TT) (aj TT) xT) (ps) (fun i=>[(0,.row .af 13 (ps.map (fun x : Fl×Fl=>(bM .af) x.1))),(1,.row .af 13 (ps.map (fun x : Fl×Fl=>(bM .af) x.2))),(5,.int .i64 i)]) b8 _ _ (fun i b hi hl=>?_) ?_
 ·have hw:=aM i (by first | omega | (simp at hl; omega))
  obtain ⟨_,rfl⟩:=List.getElem?_eq_some_iff.1 hi
  have h:=T3  (ps[i]).1 (ps[i]).2 (dh _ (List.getElem_mem hl)); try simp at h
  simp -implicitDefEqProofs [xT,HT,hl,hw,b8,h]
 ·simp -implicitDefEqProofs [xT,HT]
theorem T4 (a b : List Fl) (hb : wL b9 a≤1073741824) : ev LI TT 56 [.row .af 13 (a.map (bM .af)),.row .af 13 (b.map (bM .af))] = some (.bool (decide (a = b)),[.dead,.dead]):=by
 rw [aq (b:=CH) (rs:=[.t 4]) (n:=2) rfl rfl]
 simp -implicitDefEqProofs [CH]
 have hlen:=aY (w:=b9) a
 by_cases h : a.length = b.length
 ·obtain ⟨ps,rfl,rfl⟩:=j9 h
  have h1:=Rg  ps (by simp at hlen; omega) (fun x hx=>Nat.le_trans (ew (List.mem_map_of_mem hx)) hb)
  have h2:=jE ps
  simp at h1
  rw [← h2]
  cases h3 : aI b8 ps <;> rw [h3] at h1 <;> simp [h1,Function.comp_def]
 ·have : ¬ a = b:=fun e=>h (by rw [e])
  simp [this]
  omega
theorem Ur (a : Se) (n : Int) (hb : sP a) (hn : 0≤n) (hm : n≤9223372036854775807) : ev LI TT 120 [.agg ((cZ .af) a),.int .i64 n] = some (.int .i64 (az n (cL a)),[.dead,.dead]):=by
 rw [aq (b:=uv) (rs:=[.t 4]) (n:=2) rfl rfl]
 have hw : cL a = cq a.q + bp a.resp:=rfl
 have ht:=bG n (cL a)
 have c1:=FE  a.q n hb.tX (by omega) (by omega)
 have s1:=bG n (cq a.q)
 obtain ⟨m1,e1⟩ : ∃ m,m = az n (cq a.q):=⟨_,rfl⟩
 rw [← e1] at c1 s1
 try simp at c1
 by_cases h1 : m1 < 0
 ·have ef : az n (cL a) = -1:=by omega
  simp -implicitDefEqProofs [uv,c1,h1,ef]
 have c2:=FF  a.resp m1 hb.tY (by omega) (by omega)
 have s2:=bG m1 (bp a.resp)
 obtain ⟨m2,e2⟩ : ∃ m,m = az m1 (bp a.resp):=⟨_,rfl⟩
 rw [← e2] at c2 s2
 try simp at c2
 by_cases h2 : m2 < 0
 ·have ef : az n (cL a) = -1:=by omega
  simp -implicitDefEqProofs [uv,c1,h1,c2,h2,ef]
 have ef : az n (cL a) = m2:=by omega
 simp -implicitDefEqProofs [uv,c1,h1,c2,h2,ef]
 all_goals (repeat' split) <;> first | rfl | omega | (simp_all; done) | (simp_all; omega) | skip
theorem UI (a : Se) (hb : cL a≤1048576) : ev LI TT 131 [.agg ((cZ .af) a)] = some (.agg ((cZ .own) a),[.dead]):=by
 rw [aq (b:=C8) (rs:=[.c 2 8 true 185]) (n:=1) rfl rfl]
 have hw : cL a = cq a.q + bp a.resp:=rfl
 have h1:=FI  a.q (by omega)
 try simp at h1
 have h2:=FJ  a.resp (by omega)
 try simp at h2
 simp -implicitDefEqProofs [C8,h1,h2,hw]
 all_goals (repeat' split) <;> first | rfl | omega | (simp_all; done) | (simp_all; omega) | skip
theorem Ua (a b : Se) (hb : cL a≤1073741824) : ev LI TT 148 [.agg ((cZ .af) a),.agg ((cZ .af) b)] = some (.bool (decide (a = b)),[.dead,.dead]):=by
 rw [aq (b:=rG) (rs:=[.t 4]) (n:=2) rfl rfl]
 have hw : cL a = cq a.q + bp a.resp:=rfl
 rw [V2]
 have c1:=FA  a.q b.q (by omega)
 cases g1 : decide (a.q = b.q)
 ·rw [g1] at c1
  try simp at c1
  simp -implicitDefEqProofs [rG,c1]
 rw [g1] at c1
 try simp at c1
 have c2:=FB  a.resp b.resp (by omega)
 cases g2 : decide (a.resp = b.resp)
 ·rw [g2] at c2
  try simp at c2
  simp -implicitDefEqProofs [rG,c1,c2]
 rw [g2] at c2
 try simp at c2
 by_cases g3 : a.t = b.t
 rotate_left
 ·simp -implicitDefEqProofs [rG,c1,c2,eq_false g3]
 simp -implicitDefEqProofs [rG,c1,c2,eq_true g3]
 all_goals (repeat' split) <;> first | rfl | omega | (simp_all; done) | (simp_all; omega) | skip
theorem Ru (l : List Se) (hlen : l.length≤9223372036854775807) (hb : bL sP l) (n : Int) (hn : 0≤n) (hm : n≤9223372036854775807) : aC (ai (ev LI TT) (aj TT) ye) [(0,.row .af 8 (l.map (cZ .af))),(1,.int .i64 n),(5,.int .i64 0)] = if dU (fun b n=>az n (cL b)) (l) n < 0 then some (.ret,[(4,.int .i64 (-1))]) else some (.exit 0,[(0,.row .af 8 (l.map (cZ .af))),(1,.int .i64 (dU (fun b n=>az n (cL b)) (l) n)),(5,.int .i64 (l).length),(15,.bool false)]):=by
 refine pU (f:=ai (ev LI TT) (aj TT) ye) (l) (fun i n=>[(0,.row .af 8 (l.map (cZ .af))),(1,.int .i64 n),(5,.int .i64 i)]) (fun b n=>az n (cL b)) _ (fun n=>[(0,.row .af 8 (l.map (cZ .af))),(1,.int .i64 n),(5,.int .i64 (l).length),(15,.bool false)]) n hn hm (fun b n=>ql _ n) (fun i b n hi hl hn hm=>?_) (fun n=>?_)
 ·have hw:=aM i (by first | omega | (simp at hl; omega))
  obtain ⟨_,rfl⟩:=List.getElem?_eq_some_iff.1 hi
  have h2:=Ur  l[i] n (hb.2 _ (List.getElem_mem hl)) hn hm
  obtain ⟨m,e1⟩ : ∃ m,m = az n (cL l[i]):=⟨_,rfl⟩
  rw [← e1] at h2 ⊢
  try simp at h2
  simp -implicitDefEqProofs [ye,Ib,hl,hw,h2]
 ·simp -implicitDefEqProofs [ye,Ib]
theorem Us (l : List Se) (n : Int) (hb : bL sP l) (hn : 0≤n) (hm : n≤9223372036854775807) : ev LI TT 45 [.row .af 8 (l.map (cZ .af)),.int .i64 n] = some (.int .i64 (az n (wL cL l)),[.dead,.dead]):=by
 rw [aq (b:=uu) (rs:=[.t 4]) (n:=2) rfl rfl]
 have hl:=hb.1
 have hw : wL cL l = l.length + (l.map cL).sum:=rfl
 have ht:=bG n (wL cL l)
 obtain ⟨m,e1⟩ : ∃ m,m = n - (l.length : Int):=⟨_,rfl⟩
 have h2 : IntKind.i64.wrap (n - (l.length : Int)) = m:=by rw [e1]; exact bz (by omega) (by omega)
 by_cases h : m < 0
 ·have ef : az n (wL cL l) = -1:=by omega
  simp -implicitDefEqProofs [uu,h2,h,ef]
 have h3:=Ru  l hb.1 hb m (by omega) (by omega)
 rw [om _ _ _ (by omega)] at h3
 have hs:=bG m (l.map cL).sum
 obtain ⟨q,e2⟩ : ∃ q,q = az m (l.map cL).sum:=⟨_,rfl⟩
 rw [← e2] at h3 hs
 try simp at h3
 by_cases h4 : q < 0
 ·have ef : az n (wL cL l) = -1:=by omega
  simp only [h4,if_true] at h3
  simp -implicitDefEqProofs [uu,h2,h,h3,ef]
 have ef : az n (wL cL l) = q:=by omega
 simp only [h4,if_false] at h3
 simp -implicitDefEqProofs [uu,h2,h,h3,ef]
 all_goals (repeat' split) <;> first | rfl | omega | (simp_all; done) | (simp_all; omega) | skip
theorem RD (l : List Se) (hlen : l.length≤1048576) (hb : wL cL l≤1048576) : aC (ai (ev LI TT) (aj TT) yq) [(0,.row .af 8 (l.map (cZ .af))),(3,.row .own 8 (dw (l.map (cZ .own)) 0 [.int .i64 0,.str ⟨#[]⟩,.row .own 2 [],.str ⟨#[]⟩,.int .i64 0,.row .own 2 [],.str ⟨#[]⟩,.int .i64 0])),(4,.int .i64 0),(6,.int .i64 l.length)] = some (.exit 0,[(0,.row .af 8 (l.map (cZ .af))),(3,.row .own 8 (l.map (cZ .own))),(4,.int .i64 (l).length),(6,.int .i64 l.length),(11,.bool false)]):=by
 refine lF (f:=ai (ev LI TT) (aj TT) yq) (l) (fun i=>[(0,.row .af 8 (l.map (cZ .af))),(3,.row .own 8 (dw (l.map (cZ .own)) i [.int .i64 0,.str ⟨#[]⟩,.row .own 2 [],.str ⟨#[]⟩,.int .i64 0,.row .own 2 [],.str ⟨#[]⟩,.int .i64 0])),(4,.int .i64 i),(6,.int .i64 l.length)]) _ (fun i b hi hl=>?_) ?_
 ·have hw:=aM i (by first | omega | (simp at hl; omega))
  obtain ⟨_,rfl⟩:=List.getElem?_eq_some_iff.1 hi
  have h:=UI  l[i] (Nat.le_trans (ew (List.getElem_mem hl)) hb)
  try simp at h
  simp -implicitDefEqProofs [yq,Il,hl,hw,h]
  first | done | (rw [gH _ _ _ _ (by simpa using hl) (by simp)]; done) | (simp only [nU]; rw [gH _ _ _ _ (by simpa using hl) (by simp)])
 ·simp -implicitDefEqProofs [yq,Il]
theorem UJ (l : List Se) (hb : wL cL l≤1048576) : ev LI TT 50 [.row .af 8 (l.map (cZ .af))] = some (.row .own 8 (l.map (cZ .own)),[.dead]):=by
 rw [aq (b:=C7) (rs:=[.t 2]) (n:=1) rfl rfl]
 have hlen:=aY (w:=cL) l
 have h:=RD  l (by omega) hb
 try simp at h
 simp -implicitDefEqProofs [C7,h,(by omega : (l.length : Int) * 120≤140737488355328)]
 all_goals (repeat' split) <;> first | rfl | omega | (simp_all; done) | (simp_all; omega) | skip
theorem Rk (ps : List (Se×Se)) (hb : ps.length≤9223372036854775807) (dh : ∀ x∈ps,cL x.1≤1073741824) : aC (ai (ev LI TT) (aj TT) xX) [(0,.row .af 8 (ps.map (fun x : Se×Se=>(cZ .af) x.1))),(1,.row .af 8 (ps.map (fun x : Se×Se=>(cZ .af) x.2))),(5,.int .i64 0)] = if aI b8 (ps) = true then some (.exit 0,[(0,.row .af 8 (ps.map (fun x : Se×Se=>(cZ .af) x.1))),(1,.row .af 8 (ps.map (fun x : Se×Se=>(cZ .af) x.2))),(5,.int .i64 ps.length),(14,.bool false)]) else some (.ret,[(4,.bool false)]):=by
 refine cG (f:=ai (ev LI TT) (aj TT) xX) (ps) (fun i=>[(0,.row .af 8 (ps.map (fun x : Se×Se=>(cZ .af) x.1))),(1,.row .af 8 (ps.map (fun x : Se×Se=>(cZ .af) x.2))),(5,.int .i64 i)]) b8 _ _ (fun i b hi hl=>?_) ?_
 ·have hw:=aM i (by first | omega | (simp at hl; omega))
  obtain ⟨_,rfl⟩:=List.getElem?_eq_some_iff.1 hi
  have h:=Ua  (ps[i]).1 (ps[i]).2 (dh _ (List.getElem_mem hl)); try simp at h
  simp -implicitDefEqProofs [xX,HX,hl,hw,b8,h]
 ·simp -implicitDefEqProofs [xX,HX]
theorem Ub (a b : List Se) (hb : wL cL a≤1073741824) : ev LI TT 57 [.row .af 8 (a.map (cZ .af)),.row .af 8 (b.map (cZ .af))] = some (.bool (decide (a = b)),[.dead,.dead]):=by
 rw [aq (b:=CL) (rs:=[.t 4]) (n:=2) rfl rfl]
 simp -implicitDefEqProofs [CL]
 have hlen:=aY (w:=cL) a
 by_cases h : a.length = b.length
 ·obtain ⟨ps,rfl,rfl⟩:=j9 h
  have h1:=Rk  ps (by simp at hlen; omega) (fun x hx=>Nat.le_trans (ew (List.mem_map_of_mem hx)) hb)
  have h2:=jE ps
  simp at h1
  rw [← h2]
  cases h3 : aI b8 ps <;> rw [h3] at h1 <;> simp [h1,Function.comp_def]
 ·have : ¬ a = b:=fun e=>h (by rw [e])
  simp [this]
  omega
theorem Up (a : Rp) (n : Int) (hb : sM a) (hn : 0≤n) (hm : n≤9223372036854775807) : ev LI TT 121 [.agg ((cY .af) a),.int .i64 n] = some (.int .i64 (az n (cJ a)),[.dead,.dead]):=by
 rw [aq (b:=rI) (rs:=[.t 4]) (n:=2) rfl rfl]
 have hw : cJ a = cq a.q + bp a.resp + aV a.obj:=rfl
 have ht:=bG n (cJ a)
 have c1:=FE  a.q n hb.tX (by omega) (by omega)
 have s1:=bG n (cq a.q)
 obtain ⟨m1,e1⟩ : ∃ m,m = az n (cq a.q):=⟨_,rfl⟩
 rw [← e1] at c1 s1
 try simp at c1
 by_cases h1 : m1 < 0
 ·have ef : az n (cJ a) = -1:=by omega
  simp -implicitDefEqProofs [rI,c1,h1,ef]
 have c2:=FF  a.resp m1 hb.tY (by omega) (by omega)
 have s2:=bG m1 (bp a.resp)
 obtain ⟨m2,e2⟩ : ∃ m,m = az m1 (bp a.resp):=⟨_,rfl⟩
 rw [← e2] at c2 s2
 try simp at c2
 by_cases h2 : m2 < 0
 ·have ef : az n (cJ a) = -1:=by omega
  simp -implicitDefEqProofs [rI,c1,h1,c2,h2,ef]
 have c3:=FD  a.obj m2 hb.HL (by omega) (by omega)
 have s3:=bG m2 (aV a.obj)
 obtain ⟨m3,e3⟩ : ∃ m,m = az m2 (aV a.obj):=⟨_,rfl⟩
 rw [← e3] at c3 s3
 try simp at c3
 by_cases h3 : m3 < 0
 ·have ef : az n (cJ a) = -1:=by omega
  simp -implicitDefEqProofs [rI,c1,h1,c2,h2,c3,h3,ef]
 have ef : az n (cJ a) = m3:=by omega
 simp -implicitDefEqProofs [rI,c1,h1,c2,h2,c3,h3,ef]
 all_goals (repeat' split) <;> first | rfl | omega | (simp_all; done) | (simp_all; omega) | skip
theorem UG (a : Rp) (hb : cJ a≤1048576) : ev LI TT 132 [.agg ((cY .af) a)] = some (.agg ((cY .own) a),[.dead]):=by
 rw [aq (b:=C4) (rs:=[.c 2 18 true 118]) (n:=1) rfl rfl]
 have hw : cJ a = cq a.q + bp a.resp + aV a.obj:=rfl
 have h1:=FI  a.q (by omega)
 try simp at h1
 have h2:=FJ  a.resp (by omega)
 try simp at h2
 have h3:=FH  a.obj (by omega)
 try simp at h3
 simp -implicitDefEqProofs [C4,h1,h2,h3,hw]
 all_goals (repeat' split) <;> first | rfl | omega | (simp_all; done) | (simp_all; omega) | skip
theorem T8 (a b : Rp) (hb : cJ a≤1073741824) : ev LI TT 149 [.agg ((cY .af) a),.agg ((cY .af) b)] = some (.bool (decide (a = b)),[.dead,.dead]):=by
 rw [aq (b:=lC) (rs:=[.t 4]) (n:=2) rfl rfl]
 have hw : cJ a = cq a.q + bp a.resp + aV a.obj:=rfl
 rw [VZ]
 by_cases g1 : a.client = b.client
 rotate_left
 ·simp -implicitDefEqProofs [lC,eq_false g1]
 have c2:=FA  a.q b.q (by omega)
 cases g2 : decide (a.q = b.q)
 ·rw [g2] at c2
  try simp at c2
  simp -implicitDefEqProofs [lC,eq_true g1,c2]
 rw [g2] at c2
 try simp at c2
 have c3:=FB  a.resp b.resp (by omega)
 cases g3 : decide (a.resp = b.resp)
 ·rw [g3] at c3
  try simp at c3
  simp -implicitDefEqProofs [lC,eq_true g1,c2,c3]
 rw [g3] at c3
 try simp at c3
 by_cases g4 : a.kind = b.kind
 rotate_left
 ·simp -implicitDefEqProofs [lC,eq_true g1,c2,c3,eq_false g4]
 by_cases g5 : a.t = b.t
 rotate_left
 ·simp -implicitDefEqProofs [lC,eq_true g1,c2,c3,eq_true g4,eq_false g5]
 have c6:=Fz  a.obj b.obj (by omega)
 cases g6 : decide (a.obj = b.obj)
 ·rw [g6] at c6
  try simp at c6
  simp -implicitDefEqProofs [lC,eq_true g1,c2,c3,eq_true g4,eq_true g5,c6]
 rw [g6] at c6
 try simp at c6
 by_cases g7 : a.aQ = b.aQ
 rotate_left
 ·simp -implicitDefEqProofs [lC,eq_true g1,c2,c3,eq_true g4,eq_true g5,c6,eq_false g7]
 simp -implicitDefEqProofs [lC,eq_true g1,c2,c3,eq_true g4,eq_true g5,c6,eq_true g7]
 all_goals (repeat' split) <;> first | rfl | omega | (simp_all; done) | (simp_all; omega) | skip
theorem Rt (l : List Rp) (hlen : l.length≤9223372036854775807) (hb : bL sM l) (n : Int) (hn : 0≤n) (hm : n≤9223372036854775807) : aC (ai (ev LI TT) (aj TT) yd) [(0,.row .af 18 (l.map (cY .af))),(1,.int .i64 n),(5,.int .i64 0)] = if dU (fun b n=>az n (cJ b)) (l) n < 0 then some (.ret,[(4,.int .i64 (-1))]) else some (.exit 0,[(0,.row .af 18 (l.map (cY .af))),(1,.int .i64 (dU (fun b n=>az n (cJ b)) (l) n)),(5,.int .i64 (l).length),(15,.bool false)]):=by
 refine pU (f:=ai (ev LI TT) (aj TT) yd) (l) (fun i n=>[(0,.row .af 18 (l.map (cY .af))),(1,.int .i64 n),(5,.int .i64 i)]) (fun b n=>az n (cJ b)) _ (fun n=>[(0,.row .af 18 (l.map (cY .af))),(1,.int .i64 n),(5,.int .i64 (l).length),(15,.bool false)]) n hn hm (fun b n=>ql _ n) (fun i b n hi hl hn hm=>?_) (fun n=>?_)
 ·have hw:=aM i (by first | omega | (simp at hl; omega))
  obtain ⟨_,rfl⟩:=List.getElem?_eq_some_iff.1 hi
  have h2:=Up  l[i] n (hb.2 _ (List.getElem_mem hl)) hn hm
  obtain ⟨m,e1⟩ : ∃ m,m = az n (cJ l[i]):=⟨_,rfl⟩
  rw [← e1] at h2 ⊢
  try simp at h2
  simp -implicitDefEqProofs [yd,Ia,hl,hw,h2]
 ·simp -implicitDefEqProofs [yd,Ia]
theorem Uq (l : List Rp) (n : Int) (hb : bL sM l) (hn : 0≤n) (hm : n≤9223372036854775807) : ev LI TT 46 [.row .af 18 (l.map (cY .af)),.int .i64 n] = some (.int .i64 (az n (wL cJ l)),[.dead,.dead]):=by
 rw [aq (b:=uq) (rs:=[.t 4]) (n:=2) rfl rfl]
 have hl:=hb.1
 have hw : wL cJ l = l.length + (l.map cJ).sum:=rfl
 have ht:=bG n (wL cJ l)
 obtain ⟨m,e1⟩ : ∃ m,m = n - (l.length : Int):=⟨_,rfl⟩
 have h2 : IntKind.i64.wrap (n - (l.length : Int)) = m:=by rw [e1]; exact bz (by omega) (by omega)
 by_cases h : m < 0
 ·have ef : az n (wL cJ l) = -1:=by omega
  simp -implicitDefEqProofs [uq,h2,h,ef]
 have h3:=Rt  l hb.1 hb m (by omega) (by omega)
 rw [om _ _ _ (by omega)] at h3
 have hs:=bG m (l.map cJ).sum
 obtain ⟨q,e2⟩ : ∃ q,q = az m (l.map cJ).sum:=⟨_,rfl⟩
 rw [← e2] at h3 hs
 try simp at h3
 by_cases h4 : q < 0
 ·have ef : az n (wL cJ l) = -1:=by omega
  simp only [h4,if_true] at h3
  simp -implicitDefEqProofs [uq,h2,h,h3,ef]
 have ef : az n (wL cJ l) = q:=by omega
 simp only [h4,if_false] at h3
 simp -implicitDefEqProofs [uq,h2,h,h3,ef]
 all_goals (repeat' split) <;> first | rfl | omega | (simp_all; done) | (simp_all; omega) | skip
theorem RC (l : List Rp) (hlen : l.length≤1048576) (hb : wL cJ l≤1048576) : aC (ai (ev LI TT) (aj TT) yp) [(0,.row .af 18 (l.map (cY .af))),(3,.row .own 18 (dw (l.map (cY .own)) 0 [.int .i64 0,.int .i64 0,.str ⟨#[]⟩,.row .own 2 [],.str ⟨#[]⟩,.int .i64 0,.row .own 2 [],.str ⟨#[]⟩,.int .i64 0,.int .i64 0,.str ⟨#[]⟩,.row .own 1 [],.row .own 1 [],.int .i64 0,.row .own 2 [],.str ⟨#[]⟩,.int .i64 0,.int .i64 0])),(4,.int .i64 0),(6,.int .i64 l.length)] = some (.exit 0,[(0,.row .af 18 (l.map (cY .af))),(3,.row .own 18 (l.map (cY .own))),(4,.int .i64 (l).length),(6,.int .i64 l.length),(11,.bool false)]):=by
 refine lF (f:=ai (ev LI TT) (aj TT) yp) (l) (fun i=>[(0,.row .af 18 (l.map (cY .af))),(3,.row .own 18 (dw (l.map (cY .own)) i [.int .i64 0,.int .i64 0,.str ⟨#[]⟩,.row .own 2 [],.str ⟨#[]⟩,.int .i64 0,.row .own 2 [],.str ⟨#[]⟩,.int .i64 0,.int .i64 0,.str ⟨#[]⟩,.row .own 1 [],.row .own 1 [],.int .i64 0,.row .own 2 [],.str ⟨#[]⟩,.int .i64 0,.int .i64 0])),(4,.int .i64 i),(6,.int .i64 l.length)]) _ (fun i b hi hl=>?_) ?_
 ·have hw:=aM i (by first | omega | (simp at hl; omega))
  obtain ⟨_,rfl⟩:=List.getElem?_eq_some_iff.1 hi
  have h:=UG  l[i] (Nat.le_trans (ew (List.getElem_mem hl)) hb)
  try simp at h
  simp -implicitDefEqProofs [yp,Ik,hl,hw,h]
  first | done | (rw [gH _ _ _ _ (by simpa using hl) (by simp)]; done) | (simp only [nU]; rw [gH _ _ _ _ (by simpa using hl) (by simp)])
 ·simp -implicitDefEqProofs [yp,Ik]
theorem UH (l : List Rp) (hb : wL cJ l≤1048576) : ev LI TT 51 [.row .af 18 (l.map (cY .af))] = some (.row .own 18 (l.map (cY .own)),[.dead]):=by
 rw [aq (b:=C3) (rs:=[.t 2]) (n:=1) rfl rfl]
 have hlen:=aY (w:=cJ) l
 have h:=RC  l (by omega) hb
 try simp at h
 simp -implicitDefEqProofs [C3,h,(by omega : (l.length : Int) * 264≤140737488355328)]
 all_goals (repeat' split) <;> first | rfl | omega | (simp_all; done) | (simp_all; omega) | skip
theorem Rj (ps : List (Rp×Rp)) (hb : ps.length≤9223372036854775807) (dh : ∀ x∈ps,cJ x.1≤1073741824) : aC (ai (ev LI TT) (aj TT) xW) [(0,.row .af 18 (ps.map (fun x : Rp×Rp=>(cY .af) x.1))),(1,.row .af 18 (ps.map (fun x : Rp×Rp=>(cY .af) x.2))),(5,.int .i64 0)] = if aI b8 (ps) = true then some (.exit 0,[(0,.row .af 18 (ps.map (fun x : Rp×Rp=>(cY .af) x.1))),(1,.row .af 18 (ps.map (fun x : Rp×Rp=>(cY .af) x.2))),(5,.int .i64 ps.length),(14,.bool false)]) else some (.ret,[(4,.bool false)]):=by
 refine cG (f:=ai (ev LI TT) (aj TT) xW) (ps) (fun i=>[(0,.row .af 18 (ps.map (fun x : Rp×Rp=>(cY .af) x.1))),(1,.row .af 18 (ps.map (fun x : Rp×Rp=>(cY .af) x.2))),(5,.int .i64 i)]) b8 _ _ (fun i b hi hl=>?_) ?_
 ·have hw:=aM i (by first | omega | (simp at hl; omega))
  obtain ⟨_,rfl⟩:=List.getElem?_eq_some_iff.1 hi
  have h:=T8  (ps[i]).1 (ps[i]).2 (dh _ (List.getElem_mem hl)); try simp at h
  simp -implicitDefEqProofs [xW,HW,hl,hw,b8,h]
 ·simp -implicitDefEqProofs [xW,HW]
theorem T9 (a b : List Rp) (hb : wL cJ a≤1073741824) : ev LI TT 58 [.row .af 18 (a.map (cY .af)),.row .af 18 (b.map (cY .af))] = some (.bool (decide (a = b)),[.dead,.dead]):=by
 rw [aq (b:=CK) (rs:=[.t 4]) (n:=2) rfl rfl]
 simp -implicitDefEqProofs [CK]
 have hlen:=aY (w:=cJ) a
 by_cases h : a.length = b.length
 ·obtain ⟨ps,rfl,rfl⟩:=j9 h
  have h1:=Rj  ps (by simp at hlen; omega) (fun x hx=>Nat.le_trans (ew (List.mem_map_of_mem hx)) hb)
  have h2:=jE ps
  simp at h1
  rw [← h2]
  cases h3 : aI b8 ps <;> rw [h3] at h1 <;> simp [h1,Function.comp_def]
 ·have : ¬ a = b:=fun e=>h (by rw [e])
  simp [this]
  omega
theorem Uh (a : Ca) (n : Int) (hb : AK a) (hn : 0≤n) (hm : n≤9223372036854775807) : ev LI TT 11 [.agg ((en .af) a),.int .i64 n] = some (.int .i64 (az n (dn a)),[.dead,.dead]):=by
 rw [aq (b:=pR) (rs:=[.t 4]) (n:=2) rfl rfl]
 have hw : dn a = bT a.aE + wL b9 a.bD + wL cL a.seen + wL cJ a.sent:=rfl
 have ht:=bG n (dn a)
 have c1:=Ut  a.aE n hb.abq (by omega) (by omega)
 have s1:=bG n (bT a.aE)
 obtain ⟨m1,e1⟩ : ∃ m,m = az n (bT a.aE):=⟨_,rfl⟩
 rw [← e1] at c1 s1
 try simp at c1
 by_cases h1 : m1 < 0
 ·have ef : az n (dn a) = -1:=by omega
  simp -implicitDefEqProofs [pR,c1,h1,ef]
 have c2:=Ul  a.bD m1 hb.abh (by omega) (by omega)
 have s2:=bG m1 (wL b9 a.bD)
 obtain ⟨m2,e2⟩ : ∃ m,m = az m1 (wL b9 a.bD):=⟨_,rfl⟩
 rw [← e2] at c2 s2
 try simp at c2
 by_cases h2 : m2 < 0
 ·have ef : az n (dn a) = -1:=by omega
  simp -implicitDefEqProofs [pR,c1,h1,c2,h2,ef]
 have c3:=Us  a.seen m2 hb.abn (by omega) (by omega)
 have s3:=bG m2 (wL cL a.seen)
 obtain ⟨m3,e3⟩ : ∃ m,m = az m2 (wL cL a.seen):=⟨_,rfl⟩
 rw [← e3] at c3 s3
 try simp at c3
 by_cases h3 : m3 < 0
 ·have ef : az n (dn a) = -1:=by omega
  simp -implicitDefEqProofs [pR,c1,h1,c2,h2,c3,h3,ef]
 have c4:=Uq  a.sent m3 hb.abo (by omega) (by omega)
 have s4:=bG m3 (wL cJ a.sent)
 obtain ⟨m4,e4⟩ : ∃ m,m = az m3 (wL cJ a.sent):=⟨_,rfl⟩
 rw [← e4] at c4 s4
 try simp at c4
 by_cases h4 : m4 < 0
 ·have ef : az n (dn a) = -1:=by omega
  simp -implicitDefEqProofs [pR,c1,h1,c2,h2,c3,h3,c4,h4,ef]
 have ef : az n (dn a) = m4:=by omega
 simp -implicitDefEqProofs [pR,c1,h1,c2,h2,c3,h3,c4,h4,ef]
 all_goals (repeat' split) <;> first | rfl | omega | (simp_all; done) | (simp_all; omega) | skip
theorem Uy (a : Ca) (hb : dn a≤1048576) : ev LI TT 13 [.agg ((en .af) a)] = some (.agg ((en .own) a),[.dead]):=by
 rw [aq (b:=CR) (rs:=[.c 2 10 true 47]) (n:=1) rfl rfl]
 have hw : dn a = bT a.aE + wL b9 a.bD + wL cL a.seen + wL cJ a.sent:=rfl
 have h1:=UK  a.aE (by omega)
 try simp at h1
 have h2:=UC  a.bD (by omega)
 try simp at h2
 have h3:=UJ  a.seen (by omega)
 try simp at h3
 have h4:=UH  a.sent (by omega)
 try simp at h4
 simp -implicitDefEqProofs [CR,h1,h2,h3,h4,hw]
 all_goals (repeat' split) <;> first | rfl | omega | (simp_all; done) | (simp_all; omega) | skip
theorem TY (a b : Ca) (hb : dn a≤1073741824) : ev LI TT 15 [.agg ((en .af) a),.agg ((en .af) b)] = some (.bool (decide (a = b)),[.dead,.dead]):=by
 rw [aq (b:=nP) (rs:=[.t 4]) (n:=2) rfl rfl]
 have hw : dn a = bT a.aE + wL b9 a.bD + wL cL a.seen + wL cJ a.sent:=rfl
 rw [VT]
 have c1:=Uc  a.aE b.aE (by omega)
 cases g1 : decide (a.aE = b.aE)
 ·rw [g1] at c1
  try simp at c1
  simp -implicitDefEqProofs [nP,c1]
 rw [g1] at c1
 try simp at c1
 have c2:=T4  a.bD b.bD (by omega)
 cases g2 : decide (a.bD = b.bD)
 ·rw [g2] at c2
  try simp at c2
  simp -implicitDefEqProofs [nP,c1,c2]
 rw [g2] at c2
 try simp at c2
 by_cases g3 : a.now = b.now
 rotate_left
 ·simp -implicitDefEqProofs [nP,c1,c2,eq_false g3]
 have c4:=Ub  a.seen b.seen (by omega)
 cases g4 : decide (a.seen = b.seen)
 ·rw [g4] at c4
  try simp at c4
  simp -implicitDefEqProofs [nP,c1,c2,eq_true g3,c4]
 rw [g4] at c4
 try simp at c4
 have c5:=T9  a.sent b.sent (by omega)
 cases g5 : decide (a.sent = b.sent)
 ·rw [g5] at c5
  try simp at c5
  simp -implicitDefEqProofs [nP,c1,c2,eq_true g3,c4,c5]
 rw [g5] at c5
 try simp at c5
 simp -implicitDefEqProofs [nP,c1,c2,eq_true g3,c4,c5]
 all_goals (repeat' split) <;> first | rfl | omega | (simp_all; done) | (simp_all; omega) | skip
end M
namespace M
open Go
@[simp] theorem ai8 (x : Int) (lo : Int) (hi : Int) : ev LI TT 95 [.int .i64 x,.int .i64 lo,.int .i64 hi] = some (.bool ((decide (lo≤x∧x≤hi))),[.dead,.dead,.dead]):=by
 rw [aq (b:=Eo) (rs:=[.t 6]) (n:=3) rfl rfl]
 simp -implicitDefEqProofs [Eo]
 try (by_cases h1 : lo≤x <;> by_cases h2 : x≤hi <;> simp [h1,h2])
@[simp] theorem ai4 (x : Int) (lo : Int) (hi : Int) : ev LI TT 101 [.int .i64 x,.int .i64 lo,.int .i64 hi] = some (.bool ((decide (lo≤x∧x≤hi))),[.dead,.dead,.dead]):=by
 rw [aq (b:=Cn) (rs:=[.t 6]) (n:=3) rfl rfl]
 simp -implicitDefEqProofs [Cn]
 try (by_cases h1 : lo≤x <;> by_cases h2 : x≤hi <;> simp [h1,h2])
theorem R4 (s : ag) (hb : s.length≤9223372036854775807) : aC (ai (ev LI TT) (aj TT) zy) [(0,.str ⟨s.toArray⟩),(3,.int .i64 0)] = if aI qn (s) = true then some (.exit 0,[(0,.str ⟨s.toArray⟩),(3,.int .i64 (s).length),(8,.bool false)]) else some (.ret,[(2,.bool false)]):=by
 refine cG (f:=ai (ev LI TT) (aj TT) zy) (s) (fun i=>[(0,.str ⟨s.toArray⟩),(3,.int .i64 i)]) qn _ _ (fun i b hi hl=>?_) ?_
 ·have hw:=aM i (by first | omega | (simp at hl; omega))
  obtain ⟨_,rfl⟩:=List.getElem?_eq_some_iff.1 hi
  unfold qn
  simp -implicitDefEqProofs [zy,Jn,hl,hw]
  all_goals (repeat' split) <;> first | rfl | omega | (simp_all; done) | (simp_all; omega) | skip
 ·simp -implicitDefEqProofs [zy,Jn]
theorem FP (s : ag) (hb : s.length≤9223372036854775807) : ev LI TT 347 [.str ⟨s.toArray⟩] = some (.bool ((dI s)),[.dead]):=by
 rw [aq (b:=Ec) (rs:=[.t 2]) (n:=1) rfl rfl]
 unfold dI
 have u1:=R4  s hb
 try simp at u1
 simp -implicitDefEqProofs [Ec,u1]
 all_goals (repeat' split) <;> first | rfl | omega | (simp_all; done) | (simp_all; omega) | skip
theorem Q2 (s : ag) (hb : s.length≤9223372036854775807) : aC (ai (ev LI TT) (aj TT) xF) [(0,.str ⟨s.toArray⟩),(3,.int .i64 0)] = if aI qn (s) = true then some (.exit 0,[(0,.str ⟨s.toArray⟩),(3,.int .i64 (s).length),(7,.bool false)]) else some (.ret,[(2,.bool false)]):=by
 refine cG (f:=ai (ev LI TT) (aj TT) xF) (s) (fun i=>[(0,.str ⟨s.toArray⟩),(3,.int .i64 i)]) qn _ _ (fun i b hi hl=>?_) ?_
 ·have hw:=aM i (by first | omega | (simp at hl; omega))
  obtain ⟨_,rfl⟩:=List.getElem?_eq_some_iff.1 hi
  unfold qn
  simp -implicitDefEqProofs [xF,Hy,hl,hw]
  all_goals (repeat' split) <;> first | rfl | omega | (simp_all; done) | (simp_all; omega) | skip
 ·simp -implicitDefEqProofs [xF,Hy]
theorem Fw (s : ag) (hb : s.length≤9223372036854775807) : ev LI TT 344 [.str ⟨s.toArray⟩] = some (.bool ((dI s)),[.dead]):=by
 rw [aq (b:=Ce) (rs:=[.t 2]) (n:=1) rfl rfl]
 unfold dI
 have u1:=Q2  s hb
 try simp at u1
 simp -implicitDefEqProofs [Ce,u1]
 all_goals (repeat' split) <;> first | rfl | omega | (simp_all; done) | (simp_all; omega) | skip
theorem Q4 (s : ag) (lo : UInt8) (hb : s.length≤9223372036854775807) : aC (ai (ev LI TT) (aj TT) xH) [(0,.str ⟨s.toArray⟩),(1,.int .u8 (lo.toNat : Int)),(5,.int .i64 0)] = if aI (gS lo.toNat) (s) = true then some (.exit 0,[(0,.str ⟨s.toArray⟩),(1,.int .u8 (lo.toNat : Int)),(5,.int .i64 (s).length),(9,.bool false)]) else some (.ret,[(4,.bool false)]):=by
 refine cG (f:=ai (ev LI TT) (aj TT) xH) (s) (fun i=>[(0,.str ⟨s.toArray⟩),(1,.int .u8 (lo.toNat : Int)),(5,.int .i64 i)]) (gS lo.toNat) _ _ (fun i b hi hl=>?_) ?_
 ·have hw:=aM i (by first | omega | (simp at hl; omega))
  obtain ⟨_,rfl⟩:=List.getElem?_eq_some_iff.1 hi
  unfold gS
  simp -implicitDefEqProofs [xH,HA,hl,hw]
  all_goals (repeat' split) <;> first | rfl | omega | (simp_all; done) | (simp_all; omega) | skip
 ·simp -implicitDefEqProofs [xH,HA]
theorem K0 (s : ag) (lo : UInt8) (hb : s.length≤9223372036854775807) : ev LI TT 409 [.str ⟨s.toArray⟩,.int .u8 (lo.toNat : Int)] = some (.bool ((aI (gS lo.toNat) s)),[.dead,.dead]):=by
 rw [aq (b:=Ch) (rs:=[.t 4]) (n:=2) rfl rfl]
 have u1:=Q4  s lo hb
 try simp at u1
 simp -implicitDefEqProofs [Ch,u1]
 all_goals (repeat' split) <;> first | rfl | omega | (simp_all; done) | (simp_all; omega) | skip
end M
namespace M
open Go
def eP (b : UInt8) : Bool:=decide ¬ (b.toNat : Int) = 32
theorem R5 (s : ag) (hb : s.length≤9223372036854775807) : aC (ai (ev LI TT) (aj TT) zz) [(0,.str ⟨s.toArray⟩),(3,.int .i64 0),(4,.int .i64 s.length)] = some (.exit 0,(fun (i : Nat)=>[(0,.str ⟨s.toArray⟩),(3,.int .i64 i),(4,.int .i64 s.length),(15,.bool false)]) (dJ eP (s))):=by
 refine N9 (f:=ai (ev LI TT) (aj TT) zz) (s) (fun i=>[(0,.str ⟨s.toArray⟩),(3,.int .i64 i),(4,.int .i64 s.length)]) eP (fun (i : Nat)=>[(0,.str ⟨s.toArray⟩),(3,.int .i64 i),(4,.int .i64 s.length),(15,.bool false)]) (fun i b hi hl=>?_) ?_
 ·have hw:=aM i (by first | omega | (simp at hl; omega))
  obtain ⟨_,rfl⟩:=List.getElem?_eq_some_iff.1 hi
  simp -implicitDefEqProofs [zz,Jo,hl,hw,eP]
  all_goals (repeat' split) <;> first | rfl | omega | (simp_all; done) | (simp_all; omega) | skip
 ·simp -implicitDefEqProofs [zz,Jo]
theorem R6 (s : ag) (k : Nat) (hk : k≤s.length) (hb : s.length≤9223372036854775807) : aC (ai (ev LI TT) (aj TT) zA) [(0,.str ⟨s.toArray⟩),(3,.int .i64 k),(4,.int .i64 ((s.length - 0 : Nat) : Int))] = some (.exit 2,(fun (i : Nat)=>[(0,.str ⟨s.toArray⟩),(3,.int .i64 k),(4,.int .i64 ((s.length - i : Nat) : Int)),(27,.bool false)]) (dJ eP ((s.drop k).reverse))):=by
 refine N9 (f:=ai (ev LI TT) (aj TT) zA) ((s.drop k).reverse) (fun i=>[(0,.str ⟨s.toArray⟩),(3,.int .i64 k),(4,.int .i64 ((s.length - i : Nat) : Int))]) eP (fun (i : Nat)=>[(0,.str ⟨s.toArray⟩),(3,.int .i64 k),(4,.int .i64 ((s.length - i : Nat) : Int)),(27,.bool false)]) (fun i b hi hl=>?_) ?_
 ·have hw:=aM i (by first | omega | (simp at hl; omega))
  obtain ⟨_,rfl⟩:=List.getElem?_eq_some_iff.1 hi
  simp at hl
  obtain ⟨m,hm⟩ : ∃ m,s.length - i = m + 1:=⟨s.length - i - 1,by omega⟩
  have e1 : s.length - (i + 1) = m:=by omega
  have e2 : IntKind.i64.wrap (m : Int) = m:=bz (by omega) (by omega)
  have e3 : m < s.length:=by omega
  have e4 : ((s.drop k).reverse)[i] = s[m]:=by simp; congr 1; omega
  have e5 : (k : Int) < (m : Int) + 1:=by omega
  rw [e4,hm,e1]
  simp -implicitDefEqProofs [zA,Jp,hl,hw,eP,e2,e3,e5]
  try (rw [List.getElem?_eq_getElem e3]; simp [e2])
  all_goals (repeat' split) <;> first | rfl | omega | (simp_all; done) | (simp_all; omega) | skip
 ·simp only [List.length_reverse,List.length_drop,show s.length - (s.length - k) = k by omega]
  simp -implicitDefEqProofs [zA,Jp]
end M
namespace M
open Go
theorem Oo (b : UInt8) : eP b = true↔b≠32:=by
 unfold eP
 have : ((b.toNat : Int) = 32)↔b = 32:=by
  constructor
  ·intro h; exact UInt8.toNat_inj.1 (by have e : (32 : UInt8).toNat = 32:=rfl; omega)
  ·rintro rfl; rfl
 simp [this]
theorem PZ (s : ag) : Lib.trimLeftB s 32 = s.drop (dJ eP s):=by
 refine Lib.trimLeftB_drop s 32 _ (ES _ _) (fun j b hj hb=>?_) fun b hb=>(Oo b).1 (P7 _ _ _ hb)
 have:=P8 _ _ _ _ hj hb
 by_cases h : b = 32
 ·exact h
 ·rw [(Oo b).2 h] at this; cases this
theorem ah6 (s : ag) : Lib.trimRightB s 32 = s.take (s.length - dJ eP s.reverse):=by
 have h:=PZ s.reverse
 unfold Lib.trimLeftB at h
 unfold Lib.trimRightB
 rw [h,List.drop_reverse,List.reverse_reverse]
theorem ah7 (s : ag) : (s.drop (dJ eP s)).take (s.length - dJ eP (s.drop (dJ eP s)).reverse - dJ eP s) = fq s:=by
 rw [ah8,PZ,ah6,List.length_drop]
 congr 1
 omega
theorem FQ (s : ag) (hb : s.length≤9223372036854775807) : ev LI TT 350 [.str ⟨s.toArray⟩] = some (.str ⟨(fq s).toArray⟩,[.dead]):=by
 rw [aq (b:=Ed) (rs:=[.t 2]) (n:=1) rfl rfl]
 have h1:=ES eP s
 have h2:=ES eP (s.drop (dJ eP s)).reverse
 simp only [List.length_reverse,List.length_drop] at h2
 have h3:=ah7 s
 have u1:=R5  s hb
 try simp at u1
 have u2:=R6  s (dJ eP s) (ES _ _) hb
 try simp at u2
 simp -implicitDefEqProofs [Ed,u1,u2,(by omega : (dJ eP s : Int)≤((s.length - dJ eP (s.drop (dJ eP s)).reverse : Nat) : Int)),(by omega : ((s.length - dJ eP (s.drop (dJ eP s)).reverse : Nat) : Int)≤s.length),Lib.extract_mk,h3]
 all_goals (repeat' split) <;> first | rfl | omega | (simp_all; done) | (simp_all; omega) | skip
theorem KY (s : ag) (hb : s.length≤9223372036854775807) : ev LI TT 411 [.str ⟨s.toArray⟩] = some (.str ⟨(fq s).toArray⟩,[.dead]):=by
 rw [aq (b:=Cf) (rs:=[.t 2]) (n:=1) rfl rfl]
 have u1:=Vt  s hb
 try simp at u1
 simp -implicitDefEqProofs [Cf,u1]
 all_goals (repeat' split) <;> first | rfl | omega | (simp_all; done) | (simp_all; omega) | skip
theorem R7 (s : ag) (hb : s.length≤9223372036854775807) : aC (ai (ev LI TT) (aj TT) zC) [(0,.str ⟨s.toArray⟩),(3,.int .i64 0)] = if aI (gS 32) (s) = true then some (.exit 0,[(0,.str ⟨s.toArray⟩),(3,.int .i64 (s).length),(7,.bool false)]) else some (.ret,[(2,.bool false)]):=by
 refine cG (f:=ai (ev LI TT) (aj TT) zC) (s) (fun i=>[(0,.str ⟨s.toArray⟩),(3,.int .i64 i)]) (gS 32) _ _ (fun i b hi hl=>?_) ?_
 ·have hw:=aM i (by first | omega | (simp at hl; omega))
  obtain ⟨_,rfl⟩:=List.getElem?_eq_some_iff.1 hi
  unfold gS
  simp -implicitDefEqProofs [zC,Jq,hl,hw]
  all_goals (repeat' split) <;> first | rfl | omega | (simp_all; done) | (simp_all; omega) | skip
 ·simp -implicitDefEqProofs [zC,Jq]
theorem FR (s : ag) (hb : s.length≤9223372036854775807) : ev LI TT 255 [.str ⟨s.toArray⟩] = some (.bool ((eX s)),[.dead]):=by
 rw [aq (b:=si) (rs:=[.t 2]) (n:=1) rfl rfl]
 unfold eX
 have u1:=R7  s hb
 try simp at u1
 have u2:=FQ  s hb
 try simp at u2
 by_cases g1 : aI (gS 32) s = true
 rotate_left
 ·simp -implicitDefEqProofs [si,u1,u2,g1]
 by_cases g2 : 1≤(s.length : Int)
 rotate_left
 ·simp -implicitDefEqProofs [si,u1,u2,g1,eq_false g2]
 by_cases g3 : (s.length : Int)≤60
 rotate_left
 ·simp -implicitDefEqProofs [si,u1,u2,g1,eq_true g2,eq_false g3]
 simp -implicitDefEqProofs [si,u1,u2,g1,eq_true g2,eq_true g3]
 all_goals (repeat' split) <;> first | rfl | omega | (simp_all; done) | (simp_all; omega) | skip
theorem Fx (s : ag) (hb : s.length≤9223372036854775807) : ev LI TT 339 [.str ⟨s.toArray⟩] = some (.bool ((eX s)),[.dead]):=by
 rw [aq (b:=rA) (rs:=[.t 2]) (n:=1) rfl rfl]
 unfold eX
 have e32 : (32 : UInt8).toNat = 32:=rfl
 have u1:=K0  s 32 hb
 try simp at u1
 have u2:=KY  s hb
 try simp at u2
 by_cases g1 : 1≤(s.length : Int)
 rotate_left
 ·simp -implicitDefEqProofs [rA,u1,u2,eq_false g1]
 by_cases g2 : (s.length : Int)≤60
 rotate_left
 ·simp -implicitDefEqProofs [rA,u1,u2,eq_true g1,eq_false g2]
 by_cases g3 : aI (gS 32) s = true
 rotate_left
 ·simp -implicitDefEqProofs [rA,u1,u2,eq_true g1,eq_true g2,g3]
 simp -implicitDefEqProofs [rA,u1,u2,eq_true g1,eq_true g2,g3]
 all_goals (repeat' split) <;> first | rfl | omega | (simp_all; done) | (simp_all; omega) | skip
theorem Sm (s : ag) (hb : s.length≤9223372036854775807) : aC (ai (ev LI TT) (aj TT) zR) [(0,.str ⟨s.toArray⟩),(3,.int .i64 0)] = if aI (gS 33) (s) = true then some (.exit 0,[(0,.str ⟨s.toArray⟩),(3,.int .i64 (s).length),(7,.bool false)]) else some (.ret,[(2,.bool false)]):=by
 refine cG (f:=ai (ev LI TT) (aj TT) zR) (s) (fun i=>[(0,.str ⟨s.toArray⟩),(3,.int .i64 i)]) (gS 33) _ _ (fun i b hi hl=>?_) ?_
 ·have hw:=aM i (by first | omega | (simp at hl; omega))
  obtain ⟨_,rfl⟩:=List.getElem?_eq_some_iff.1 hi
  unfold gS
  simp -implicitDefEqProofs [zR,JA,hl,hw]
  all_goals (repeat' split) <;> first | rfl | omega | (simp_all; done) | (simp_all; omega) | skip
 ·simp -implicitDefEqProofs [zR,JA]
theorem FU (s : ag) (hb : s.length≤9223372036854775807) : ev LI TT 249 [.str ⟨s.toArray⟩] = some (.bool ((fZ s)),[.dead]):=by
 rw [aq (b:=su) (rs:=[.t 2]) (n:=1) rfl rfl]
 unfold fZ
 have u1:=Sm  s hb
 try simp at u1
 by_cases g1 : aI (gS 33) s = true
 rotate_left
 ·simp -implicitDefEqProofs [su,u1,g1]
 by_cases g2 : 1≤(s.length : Int)
 rotate_left
 ·simp -implicitDefEqProofs [su,u1,g1,eq_false g2]
 by_cases g3 : (s.length : Int)≤60
 rotate_left
 ·simp -implicitDefEqProofs [su,u1,g1,eq_true g2,eq_false g3]
 obtain ⟨b,hb0⟩ : ∃ b,s[0]? = some b:=⟨s[0]'(by omega),by simp⟩
 simp -implicitDefEqProofs [su,u1,g1,eq_true g2,eq_true g3,hb0]
 all_goals (repeat' split) <;> first | rfl | omega | (simp_all; done) | (simp_all; omega) | skip
theorem Fy (s : ag) (hb : s.length≤9223372036854775807) : ev LI TT 337 [.str ⟨s.toArray⟩] = some (.bool ((fZ s)),[.dead]):=by
 rw [aq (b:=tT) (rs:=[.t 2]) (n:=1) rfl rfl]
 unfold fZ
 have e33 : (33 : UInt8).toNat = 33:=rfl
 have u1:=K0  s 33 hb
 try simp at u1
 by_cases g1 : 1≤(s.length : Int)
 rotate_left
 ·simp -implicitDefEqProofs [tT,u1,eq_false g1]
 by_cases g2 : (s.length : Int)≤60
 rotate_left
 ·simp -implicitDefEqProofs [tT,u1,eq_true g1,eq_false g2]
 obtain ⟨b,hb0⟩ : ∃ b,s[0]? = some b:=⟨s[0]'(by omega),by simp⟩
 by_cases Z0 : (b.toNat : Int) = 47
 all_goals
 simp -implicitDefEqProofs [tT,u1,eq_true g1,eq_true g2,hb0,Z0]
 all_goals (repeat' split) <;> first | rfl | omega | (simp_all; done) | (simp_all; omega) | skip
@[simp] theorem ai7 (t : Int) : ev LI TT 139 [.int .i64 t] = some (.bool ((decide (0≤t∧t≤1000000))),[.dead]):=by
 rw [aq (b:=Cr) (rs:=[.t 2]) (n:=1) rfl rfl]
 simp -implicitDefEqProofs [Cr]
 all_goals (repeat' split) <;> first | rfl | omega | (simp_all; done) | (simp_all; omega) | skip
theorem KQ (n : Int) : ev LI TT 334 [.int .i64 n] = some (.str ⟨(dM n).toArray⟩,[.dead]):=by
 rw [aq (b:=xp) (rs:=[.t 2]) (n:=1) rfl rfl]
 unfold dM
 by_cases hn : 0≤n∧n≤1000000
 rotate_left
 ·have hf : (decide (0≤n) && decide (n≤1000000)) = false:=by simp; omega
  simp -implicitDefEqProofs [xp,hn,hf]
 obtain ⟨k,rfl⟩ : ∃ k : Nat,n = k:=⟨n.toNat,by omega⟩
 have u1:=qE  k (by omega)
 try simp at u1
 simp -implicitDefEqProofs [xp,u1,hn]
 all_goals (repeat' split) <;> first | rfl | omega | (simp_all; done) | (simp_all; omega) | skip
end M
namespace M
open Go
theorem RR (s : ag) (hb : s.length≤1073741824) : aC (ai (ev LI TT) (aj TT) rW) [(0,.str ⟨s.toArray⟩),(3,.row .own 1 (([]).map eU)),(4,.int .i64 0)] = some (.exit 0,[(0,.str ⟨s.toArray⟩),(3,.row .own 1 ((((s).flatMap (fun b=>[lG b]))).map eU)),(4,.int .i64 (s).length),(10,.bool false)]):=by
 refine Dk (f:=ai (ev LI TT) (aj TT) rW) (s) (fun b=>[lG b]) (fun i out=>[(0,.str ⟨s.toArray⟩),(3,.row .own 1 ((out).map eU)),(4,.int .i64 i)]) (fun out=>[(0,.str ⟨s.toArray⟩),(3,.row .own 1 ((out).map eU)),(4,.int .i64 (s).length),(10,.bool false)]) (fun i b out hi hl hout=>?_) (fun out hout=>?_)
 ·have hw:=aM i (by first | omega | (simp at hl; omega))
  obtain ⟨_,rfl⟩:=List.getElem?_eq_some_iff.1 hi
  have hlo : out.length = i:=by rw [hout]; exact Mq _ _ _ (by omega)
  have hx:=s[i].toNat_lt
  unfold lG
  by_cases h1 : 65≤(s[i]).toNat
  rotate_left
  ·have h1' : ¬ (65 : Int)≤(s[i]).toNat:=by omega
   simp -implicitDefEqProofs [rW,zj,hl,hw,h1,h1',hlo,cQ]
   omega
  by_cases h2 : (s[i]).toNat≤90
  rotate_left
  ·have h1' : (65 : Int)≤(s[i]).toNat:=by omega
   have fP : ¬ ((s[i]).toNat : Int)≤90:=by omega
   have GI : 90 < ((s[i]).toNat : Int):=by omega
   simp -implicitDefEqProofs [rW,zj,hl,hw,h1,h1',h2,fP,GI,hlo,cQ]
   omega
  have h1' : (65 : Int)≤(s[i]).toNat:=by omega
  have fP : ((s[i]).toNat : Int)≤90:=by omega
  have h3:=Oa s[i] ⟨h1,h2⟩
  have h4 : IntKind.u8.wrap ((s[i]).toNat + 32) = (s[i]).toNat + 32:=Qk (by omega) (by omega)
  simp -implicitDefEqProofs [rW,zj,hl,hw,h1,h1',h2,fP,hlo,cQ,h3,h4]
  omega
 ·simp -implicitDefEqProofs [rW,zj]
theorem La (s : ag) (hb : s.length≤1073741824) : ev LI TT 349 [.str ⟨s.toArray⟩] = some (.str ⟨(bW s).toArray⟩,[.dead]):=by
 rw [aq (b:=DZ) (rs:=[.t 2]) (n:=1) rfl rfl]
 have hl : (bW s).length = s.length:=by simp [bW]
 have e : s.flatMap (fun b=>[lG b]) = bW s:=Gu lG s
 have u1:=RR  s hb
 try simp at u1
 simp -implicitDefEqProofs [DZ,u1,e,hl,rowAt,(by omega : s.length≤9223372036854775807)]
 all_goals (repeat' split) <;> first | rfl | omega | (simp_all; done) | (simp_all; omega) | skip
theorem ad8 (s : ag) (i : Nat) (h : i < s.length) (x : UInt8) (hx : x = lG s[i]) : (bW (s.take i) ++ s.drop i).set i x = bW (s.take (i + 1)) ++ s.drop (i + 1):=by
 subst hx
 rw [List.set_append_right _ _ (by simp [bW]; omega),List.drop_eq_getElem_cons h]
 have : i - (bW (s.take i)).length = 0:=by simp [bW]; omega
 rw [this,List.take_succ_eq_append_getElem h]
 simp only [List.set_cons_zero,bW,List.map_append,List.map_cons,List.map_nil,List.append_assoc,List.cons_append,List.nil_append]
theorem Pv (s : ag) (i : Nat) (h : i < s.length) (hx : lG s[i] = s[i]) : bW (s.take i) ++ s.drop i = bW (s.take (i + 1)) ++ s.drop (i + 1):=by
 rw [List.take_succ_eq_append_getElem h,List.drop_eq_getElem_cons h]
 simp only [bW,hx,List.map_append,List.map_cons,List.map_nil,List.append_assoc,List.cons_append,List.nil_append]
theorem V9 (l : ag) (i : Nat) (x : Int) (b : UInt8) (hx : x = (b.toNat : Int)) : (l.map eU).modify i (fun e=>e.set 0 (X.int .u8 x)) = (l.set i b).map eU:=by
 subst hx
 apply List.ext_getElem?
 intro j
 rw [List.getElem?_modify,List.getElem?_map,List.getElem?_map,List.getElem?_set]
 by_cases h : i = j
 ·subst h
  by_cases h2 : i < l.length
  ·simp [h2]
  ·simp [h2,List.getElem?_eq_none (Nat.le_of_not_lt h2)]
 ·simp only [h,if_false]
  cases l[j]? <;> rfl
theorem QV (s : ag) (hb : s.length≤1073741824) : aC (ai (ev LI TT) (aj TT) rq) [(3,.row .own 1 ((bW (s.take 0) ++ s.drop 0).map eU)),(6,.str ⟨s.toArray⟩),(8,.ref 3 []),(9,.int .i64 s.length),(10,.int .i64 0)] = some (.exit 0,[(3,.row .own 1 ((bW s).map eU)),(6,.str ⟨s.toArray⟩),(8,.ref 3 []),(9,.int .i64 s.length),(10,.int .i64 (s).length),(11,.bool false)]):=by
 refine lF (f:=ai (ev LI TT) (aj TT) rq) (s) (fun i=>[(3,.row .own 1 ((bW (s.take i) ++ s.drop i).map eU)),(6,.str ⟨s.toArray⟩),(8,.ref 3 []),(9,.int .i64 s.length),(10,.int .i64 i)]) _ (fun i b hi hl=>?_) ?_
 ·have hw:=aM i (by first | omega | (simp at hl; omega))
  obtain ⟨_,rfl⟩:=List.getElem?_eq_some_iff.1 hi
  have hk : (bW (s.take i) ++ s.drop i).length = s.length:=by simp [bW]; omega
  have hx:=s[i].toNat_lt
  have hg : (bW (s.take i) ++ s.drop i)[i]? = some s[i]:=by rw [List.getElem?_append_right (by simp [bW]; omega)]; simp [bW,Nat.min_eq_left (Nat.le_of_lt hl)]
  have hg' : ∀ h,(bW (s.take i) ++ s.drop i)[i]'h = s[i]:=fun h=>by rw [List.getElem?_eq_getElem h] at hg; exact Option.some.inj hg
  generalize hq : bW (s.take i) ++ s.drop i = q at hk hg hg' ⊢
  have qW : i < q.length:=by omega
  by_cases h1 : 65≤(s[i]).toNat
  rotate_left
  ·have h1' : ¬ (65 : Int)≤(s[i]).toNat:=by omega
   have e:=Pv s i hl (by unfold lG; rw [if_neg (by omega)])
   rw [hq] at e
   simp -implicitDefEqProofs [rq,xo,hl,hw,hg,hg',qW,h1',← e]
  by_cases h2 : (s[i]).toNat≤90
  rotate_left
  ·have h1' : (65 : Int)≤(s[i]).toNat:=by omega
   have GI : 90 < ((s[i]).toNat : Int):=by omega
   have fP : ¬ ((s[i]).toNat : Int)≤90:=by omega
   have e:=Pv s i hl (by unfold lG; rw [if_neg (by omega)])
   rw [hq] at e
   simp -implicitDefEqProofs [rq,xo,hl,hw,hg,hg',qW,h1',fP,GI,← e]
  have h1' : (65 : Int)≤(s[i]).toNat:=by omega
  have fP : ((s[i]).toNat : Int)≤90:=by omega
  have h3:=Oa s[i] ⟨h1,h2⟩
  have h4 : IntKind.u8.wrap ((s[i]).toNat + 32) = (s[i]).toNat + 32:=Qk (by omega) (by omega)
  have e:=ad8 s i hl (s[i] + 32) (by unfold lG; rw [if_pos ⟨h1,h2⟩])
  rw [hq] at e
  have e2:=V9 q i _ (s[i] + 32) (show ((s[i]).toNat : Int) + 32 = _ by rw [h3]; rfl)
  rw [e] at e2
  simp -implicitDefEqProofs [rq,xo,hl,hw,hg,hg',qW,h1',fP,h4,e2]
  all_goals (repeat' split) <;> first | rfl | omega | (simp_all; done) | (simp_all; omega) | skip
 ·simp only [List.take_length,List.drop_length,List.append_nil]
  simp -implicitDefEqProofs [rq,xo]
theorem KP (s : ag) (hb : s.length≤1073741824) : ev LI TT 413 [.str ⟨s.toArray⟩] = some (.str ⟨(bW s).toArray⟩,[.dead]):=by
 rw [aq (b:=B2) (rs:=[.t 2]) (n:=1) rfl rfl]
 have hl : (bW s).length = s.length:=by simp [bW]
 have e0 : bW (s.take 0) ++ s.drop 0 = s:=by simp [bW]
 have u1:=QV  s hb
 try simp at u1
 simp -implicitDefEqProofs [B2,u1,hl,rowAt,(by omega : s.length≤9223372036854775807)]
 all_goals (repeat' split) <;> first | rfl | omega | (simp_all; done) | (simp_all; omega) | skip
@[simp] theorem aja (x : Int) (y : Int) : ev LI TT 192 [.int .i64 x,.int .i64 y] = some (.int .i64 ((if x < y then x else y)),[.dead,.dead]):=by
 rw [aq (b:=Er) (rs:=[.t 4]) (n:=2) rfl rfl]
 simp -implicitDefEqProofs [Er]
 all_goals (repeat' split) <;> first | rfl | omega | (simp_all; done) | (simp_all; omega) | skip
@[simp] theorem ai9 (x : Int) (y : Int) : ev LI TT 171 [.int .i64 x,.int .i64 y] = some (.int .i64 ((if y < x then x else y)),[.dead,.dead]):=by
 rw [aq (b:=Ep) (rs:=[.t 4]) (n:=2) rfl rfl]
 simp -implicitDefEqProofs [Ep]
 all_goals (repeat' split) <;> first | rfl | omega | (simp_all; done) | (simp_all; omega) | skip
end M
namespace M
open Go
theorem RU (n : Nat) (out : ag) (hn : out.length + n≤9223372036854775807) : aC (ai (ev LI TT) (aj TT) Jh) [(0,.int .i64 n),(3,.str ⟨out.toArray⟩)] = some (.exit 0,[(0,.int .i64 0),(3,.str ⟨(nS n out).toArray⟩),(10,.bool false)]):=by
 have hs : ∀ s,ai (ev LI TT) (aj TT) Jh s = ai (ev LI TT) (aj TT) D6 s:=fun _=>rfl
 induction n using Nat.strongRecOn generalizing out with
 | ind n ih =>
  rw [dy,hs]
  unfold nS
  by_cases h : n = 0
  ·subst h
   simp -implicitDefEqProofs [D6]
  ·have hp : 0 < n:=by omega
   have:=ih (n / 10) (by omega) (UInt8.ofNat (48 + n % 10) :: out) (by rw [List.length_cons]; omega)
   have e1 : ((n : Int)).tmod 10 = ((n % 10 : Nat) : Int):=by rw [Int.tmod_eq_emod_of_nonneg (by omega)]; omega
   have e4 : ((n : Int)).tdiv 10 = ((n / 10 : Nat) : Int):=by rw [Int.tdiv_eq_ediv_of_nonneg (by omega)]; omega
   have e2 : IntKind.i64.wrap (48 + ((n % 10 : Nat) : Int)) = ((48 + n % 10 : Nat) : Int):=by rw [bz (by omega) (by omega)]; omega
   have e3 : IntKind.u8.wrap ((48 + n % 10 : Nat) : Int) = ((48 + n % 10 : Nat) : Int):=J3 (by omega) (by omega)
   have e5:=P6 (48 + n % 10) (by omega)
   have e6 : IntKind.i64.wrap ((n / 10 : Nat) : Int) = ((n / 10 : Nat) : Int):=bz (by omega) (by omega)
   simp only [h,dite_false]
   rw [← this]
   simp -implicitDefEqProofs [D6,hp,uB,e1,e2,e3,e4,e5,e6,-Int.natCast_emod,-Int.natCast_ediv,-Int.natCast_add,-UInt8.ofNat_add,gN,(by omega : 1 + out.length≤9223372036854775807)]
theorem sW (n : Int) : ev LI TT 213 [.int .i64 n] = some (.str ⟨(dM n).toArray⟩,[.dead]):=by
 rw [aq (b:=uY) (rs:=[.t 2]) (n:=1) rfl rfl]
 unfold dM
 by_cases hn : 0≤n∧n≤1000000
 rotate_left
 ·have hf : (decide (0≤n) && decide (n≤1000000)) = false:=by simp; omega
  simp -implicitDefEqProofs [uY,hn,hf]
 obtain ⟨k,rfl⟩ : ∃ k : Nat,n = k:=⟨n.toNat,by omega⟩
 by_cases h : k = 0
 ·subst h; simp -implicitDefEqProofs [uY,A8]
 have h1:=RU k [] (by simp; omega)
 rw [Oe k [] h,List.append_nil] at h1
 simp -implicitDefEqProofs [uY,hn,h,h1]
 all_goals (repeat' split) <;> first | rfl | omega | (simp_all; done) | (simp_all; omega) | skip
theorem Dz (n : Int) : (dM n).length≤7:=by
 unfold dM
 split
 ·exact qO _ (by omega)
 ·simp
theorem RS (s : ag) (hb : s.length≤7) (hd : aI gm s = true) (g : Nat) (hinv : g < 10 ^ 0) : aC (ai (ev LI TT) (aj TT) lT) [(0,.str ⟨s.toArray⟩),(4,.int .i64 (g : Nat)),(5,.int .i64 0)] = some (.exit 0,[(0,.str ⟨s.toArray⟩),(4,.int .i64 ((foldI (fun _ g b=>10 * g + b.toNat - 48) 0 (s) g) : Nat)),(5,.int .i64 (s).length),(16,.bool false)]):=by
 refine gw (f:=ai (ev LI TT) (aj TT) lT) (s) (fun i (g : Nat)=>[(0,.str ⟨s.toArray⟩),(4,.int .i64 (g : Nat)),(5,.int .i64 i)]) (fun _ g b=>10 * g + b.toNat - 48) (fun g=>[(0,.str ⟨s.toArray⟩),(4,.int .i64 (g : Nat)),(5,.int .i64 (s).length),(16,.bool false)]) (fun i (g : Nat)=>g < 10 ^ i) g hinv (fun i b g hi hl hinv=>?_) (fun i b g hi hinv=>?_) (fun g hinv=>?_)
 ·have hw:=aM i (by first | omega | (simp at hl; omega))
  obtain ⟨_,rfl⟩:=List.getElem?_eq_some_iff.1 hi
  have hx:=gV.1 hd s[i] (List.getElem_mem hl)
  simp only [gm,decide_eq_true_eq] at hx
  have hp : 10 ^ i≤10 ^ 6:=Nat.pow_le_pow_right (by omega) (by omega)
  have h1 : ¬ ((s[i]).toNat : Int) < 48:=by omega
  have h2 : ¬ 57 < ((s[i]).toNat : Int):=by omega
  have e1 : IntKind.i64.wrap (10 * (g : Int)) = 10 * g:=bz (by omega) (by omega)
  have e0 : IntKind.i64.wrap ((s[i]).toNat : Int) = (s[i]).toNat:=bz (by omega) (by omega)
  have e2 : IntKind.i64.wrap (10 * (g : Int) + (s[i]).toNat) = 10 * g + (s[i]).toNat:=bz (by omega) (by omega)
  have e3 : IntKind.i64.wrap (10 * (g : Int) + (s[i]).toNat - 48) = ((10 * g + (s[i]).toNat - 48 : Nat) : Int):=by rw [bz (by omega) (by omega)]; omega
  simp -implicitDefEqProofs [lT,r8,hl,hw,h1,h2,e0,e1,e2,e3]
 ·obtain ⟨hl,rfl⟩:=List.getElem?_eq_some_iff.1 hi
  have hx:=gV.1 hd s[i] (List.getElem_mem hl)
  simp only [gm,decide_eq_true_eq] at hx
  rw [Nat.pow_succ]; omega
 ·simp -implicitDefEqProofs [lT,r8]
theorem RT (s : ag) (hb : s.length≤7) (hd : ¬ aI gm s = true) : aC (ai (ev LI TT) (aj TT) lT) [(0,.str ⟨s.toArray⟩),(4,.int .i64 0),(5,.int .i64 0)] = some (.ret,[(2,.int .i64 0),(3,.bool false)]):=by
 have key:=Dm (xt:=0) (f:=ai (ev LI TT) (aj TT) lT) s (fun i (g : Nat)=>[(0,.str ⟨s.toArray⟩),(4,.int .i64 (g : Int)),(5,.int .i64 i)]) (fun b g=>if gm b = true then .inl (10 * g + b.toNat - 48) else .inr (.ret,[(2,.int .i64 0),(3,.bool false)])) (fun g=>[(0,.str ⟨s.toArray⟩),(4,.int .i64 (g : Int)),(5,.int .i64 s.length),(16,.bool false)]) (fun i g=>g < 10 ^ i) 0 (by decide) (fun i b g hi hl hinv=>?_) (fun i b g g' hi hinv hg=>?_) (fun g hg=>?_)
 ·have hr : ∀ (r : ag) (g : Nat),¬ aI gm r = true→kM (fun (b : UInt8) (g : Nat)=>if gm b = true then (.inl (10 * g + b.toNat - 48) : Nat ⊕ (Ex×ah)) else .inr (.ret,[(2,.int .i64 0),(3,.bool false)])) r g = .inr (.ret,[(2,.int .i64 0),(3,.bool false)]):=by
   intro r
   induction r with
   | nil=>intro g h; exact absurd rfl h
   | cons b r ih =>
    intro g h
    simp only [kM]
    by_cases hb : gm b = true
    ·simp only [hb,if_true]
     exact ih _ fun h'=>h (by rw [gV] at h' ⊢; intro x hx; rcases List.mem_cons.1 hx with rfl | hx; exact hb; exact h' x hx)
    ·simp [hb]
  rw [hr s 0 hd] at key
  simpa [lv] using key
 ·have hw:=aM i (by omega)
  obtain ⟨_,rfl⟩:=List.getElem?_eq_some_iff.1 hi
  by_cases h : gm s[i] = true
  ·have hx:=h
   simp only [gm,decide_eq_true_eq] at hx
   have hp : 10 ^ i≤10 ^ 6:=Nat.pow_le_pow_right (by omega) (by omega)
   have h1 : ¬ ((s[i]).toNat : Int) < 48:=by omega
   have h2 : ¬ 57 < ((s[i]).toNat : Int):=by omega
   have e1 : IntKind.i64.wrap (10 * (g : Int)) = 10 * g:=bz (by omega) (by omega)
   have e0 : IntKind.i64.wrap ((s[i]).toNat : Int) = (s[i]).toNat:=bz (by omega) (by omega)
   have e2 : IntKind.i64.wrap (10 * (g : Int) + (s[i]).toNat) = 10 * g + (s[i]).toNat:=bz (by omega) (by omega)
   have e3 : IntKind.i64.wrap (10 * (g : Int) + (s[i]).toNat - 48) = ((10 * g + (s[i]).toNat - 48 : Nat) : Int):=by rw [bz (by omega) (by omega)]; omega
   simp -implicitDefEqProofs [lT,r8,hl,hw,h,h1,h2,e0,e1,e2,e3]
  ·have hx:=h
   simp only [gm,decide_eq_true_eq] at hx
   by_cases h1 : ((s[i]).toNat : Int) < 48
   ·simp -implicitDefEqProofs [lT,r8,hl,hw,h,h1,lv]
   ·have h2 : 57 < ((s[i]).toNat : Int):=by omega
    simp -implicitDefEqProofs [lT,r8,hl,hw,h,h1,h2,lv]
 ·obtain ⟨hl,rfl⟩:=List.getElem?_eq_some_iff.1 hi
  split at hg
  ·rename_i hx
   simp only [gm,decide_eq_true_eq] at hx
   injection hg with hg
   rw [Nat.pow_succ]; omega
  ·cases hg
 ·simp -implicitDefEqProofs [lT,r8]
theorem Gx {β γ : Type} (go : γ→β→γ) : ∀ (l : List β) (i : Nat) (g : γ),foldI (fun _ g b=>go g b) i l g = l.foldl go g
 | [],_,_=>rfl
 | b :: l,i,g=>by rw [foldI,Gx go l,List.foldl_cons]
theorem sV (s : ag) (hb : s.length≤9223372036854775807) : ev LI TT 211 [.str ⟨s.toArray⟩] = some (.au [.int .i64 ((((aZ s).getD 0 : Nat) : Int)),.bool ((aZ s).isSome)],[.dead]):=by
 rw [aq (b:=qc) (rs:=[.t 2,.t 3]) (n:=1) rfl rfl]
 by_cases h7 : 7 < s.length
 ·have wE : 7 < (s.length : Int):=by omega
  have hn : ¬ s = []:=by rintro rfl; simp at h7
  simp -implicitDefEqProofs [qc,Oq s h7,wE,hn]
 have wE : ¬ 7 < (s.length : Int):=by omega
 rw [acq s (by omega)]
 by_cases h0 : s = []
 ·subst h0; simp -implicitDefEqProofs [qc]
 by_cases hd : aI gm s = true
 rotate_left
 ·have u1:=RT s (by omega) hd
  simp -implicitDefEqProofs [qc,wE,h0,hd,u1]
 have u1:=RS s (by omega) hd 0 (by decide)
 rw [show foldI (fun _ (g : Nat) (b : UInt8)=>10 * g + b.toNat - 48) 0 s 0 = j7 s from Gx _ s 0 0] at u1
 simp only [Int.ofNat_zero] at u1
 have u2:=sW (j7 s)
 by_cases ht : dM (j7 s) = s
 rotate_left
 ·simp -implicitDefEqProofs [qc,wE,h0,hd,u1,u2,eq_false ht]
 simp -implicitDefEqProofs [qc,wE,h0,hd,u1,u2,eq_true ht]
 all_goals (repeat' split) <;> first | rfl | omega | (simp_all; done) | (simp_all; omega) | skip
end M
namespace M
open Go
def iR (w : ag) : List ag:=if fq w≠[] then [fq w] else []
theorem OK (s : ag) (i : Nat) (h : i < (s.map some ++ [none]).length) : (∃ hi : i < s.length,(s.map some ++ [none])[i] = some s[i])∨(i = s.length∧(s.map some ++ [none])[i] = none):=by
 by_cases hi : i < s.length
 ·refine .inl ⟨hi,?_⟩
  rw [List.getElem_append_left (by simpa using hi)]
  simp
 ·simp at h
  obtain rfl : i = s.length:=by omega
  refine .inr ⟨rfl,?_⟩
  rw [List.getElem_append_right (by simp)]
  simp
theorem Pz (w : ag) : (iR w).length≤1:=by unfold iR; split <;> simp
theorem MN (c : UInt8) (f : ag→List ag) (hf : ∀ w,(f w).length≤1) (s : ag) (i : Nat) (g : List ag×Nat) (b : Option UInt8) (h : g.2≤i∧g.1.length≤i) : (e9 c f s i g b).2≤i + 1∧(e9 c f s i g b).1.length≤i + 1:=by
 unfold e9
 have:=hf ((s.take i).drop g.2)
 split
 ·split
  ·simp; omega
  ·omega
 ·simp; omega
theorem R2 (s : ag) (hb : s.length≤1073741824) (g : List ag×Nat) (hinv : g.2≤0∧g.1.length≤0) : aC (ai (ev LI TT) (aj TT) oa) [(0,.str ⟨s.toArray⟩),(3,.row .own 1 ((g).1.map eS)),(4,.int .i64 ((g).2 : Nat)),(5,.int .i64 0)] = some (.exit 0,[(0,.str ⟨s.toArray⟩),(3,.row .own 1 (((foldI (e9 44 iR s) 0 (s.map some ++ [none]) g)).1.map eS)),(4,.int .i64 (((foldI (e9 44 iR s) 0 (s.map some ++ [none]) g)).2 : Nat)),(5,.int .i64 (s.map some ++ [none]).length),(11,.bool false)]):=by
 refine gw (f:=ai (ev LI TT) (aj TT) oa) (s.map some ++ [none]) (fun i (g : List ag×Nat)=>[(0,.str ⟨s.toArray⟩),(3,.row .own 1 ((g).1.map eS)),(4,.int .i64 ((g).2 : Nat)),(5,.int .i64 i)]) (e9 44 iR s) (fun g=>[(0,.str ⟨s.toArray⟩),(3,.row .own 1 ((g).1.map eS)),(4,.int .i64 ((g).2 : Nat)),(5,.int .i64 (s.map some ++ [none]).length),(11,.bool false)]) (fun i (g : List ag×Nat)=>g.2≤i∧g.1.length≤i) g hinv (fun i b g hi hl hinv=>?_) (fun i b g hi hinv=>?_) (fun g hinv=>?_)
 ·have hw:=aM i (by first | omega | (simp at hl; omega))
  obtain ⟨_,rfl⟩:=List.getElem?_eq_some_iff.1 hi
  have hlz : (g.1.length + 1) * 16≤140737488355328:=by simp at hl; omega
  have wD : ∀ b : UInt8,((b.toNat : Int) = 44)↔b = 44:=fun b=>⟨fun h=>UInt8.toNat_inj.1 (by have e : (44 : UInt8).toNat = 44:=rfl; omega),fun h=>by subst h; rfl⟩
  rcases OK s i hl with ⟨hi',e⟩ | ⟨rfl,e⟩
  ·rw [e]
   have k1 : (i : Int)≤s.length:=by omega
   have k2 : i≤s.length:=by omega
   have hc:=FQ ((s.drop g.2).take (i - g.2)) (by simp; omega)
   by_cases hx : s[i] = 44
   rotate_left
   ·have hx':=mt (wD s[i]).1 hx
    simp -implicitDefEqProofs [oa,sg,k1,k2,hi',hw,e9,hx,hx']
   have hx':=(wD s[i]).2 hx
   have e3 : (s.take i).drop g.2 = (s.drop g.2).take (i - g.2):=List.drop_take ..
   by_cases ht : fq ((s.drop g.2).take (i - g.2)) = []
   ·simp -implicitDefEqProofs [oa,sg,k1,k2,hi',hw,e9,eq_true hx,hx',hinv,hc,Lib.extract_mk,iR,e3,eq_true ht]
   ·simp -implicitDefEqProofs [oa,sg,k1,k2,hi',hw,e9,eq_true hx,hx',hinv,hc,Lib.extract_mk,iR,e3,eq_false ht,cQ,hlz]
  rw [e]
  have hc:=FQ ((s.drop g.2).take (s.length - g.2)) (by simp; omega)
  have e3 : (s.take s.length).drop g.2 = (s.drop g.2).take (s.length - g.2):=List.drop_take ..
  by_cases ht : fq ((s.drop g.2).take (s.length - g.2)) = []
  ·simp only [e9,e3,iR,eq_true ht]
   simp -implicitDefEqProofs [oa,sg,hw,hinv,hc,Lib.extract_mk,eq_true ht]
  simp only [e9,e3,iR,eq_false ht]
  simp -implicitDefEqProofs [oa,sg,hl,hw,hinv,hc,Lib.extract_mk,eq_false ht,cQ,hlz]
 ·exact MN 44 iR Pz s i g b hinv
 ·have GU : ¬ ((s.length : Int) + 1≤s.length):=by omega
  simp -implicitDefEqProofs [oa,sg,GU]
theorem Lf (s : ag) (hb : s.length≤1073741824) : ev LI TT 348 [.str ⟨s.toArray⟩] = some (.row .own 1 ((gB s).map eS),[.dead]):=by
 rw [aq (b:=Ea) (rs:=[.t 2]) (n:=1) rfl rfl]
 have u1:=R2 s hb ([],0) ⟨by omega,by simp⟩
 rw [MA,show (bg 44 s).flatMap iR = gB s from (Qi s).symm] at u1
 simp at u1
 simp -implicitDefEqProofs [Ea,u1]
 all_goals (repeat' split) <;> first | rfl | omega | (simp_all; done) | (simp_all; omega) | skip
theorem Q0 (s : ag) (ws : List ag) (hb : ∀ w∈ws,w.length≤1073741824) (hl0 : ws.length≤1073741825) : aC (ai (ev LI TT) (aj TT) tO) [(3,.row .own 1 (([]).map eS)),(8,.row .own 1 (ws.map eS)),(9,.int .i64 ws.length),(10,.int .i64 0)] = some (.exit 0,[(3,.row .own 1 ((((ws).flatMap iR)).map eS)),(8,.row .own 1 (ws.map eS)),(9,.int .i64 ws.length),(10,.int .i64 (ws).length),(11,.bool false)]):=by
 refine Dk (f:=ai (ev LI TT) (aj TT) tO) (ws) iR (fun i out=>[(3,.row .own 1 ((out).map eS)),(8,.row .own 1 (ws.map eS)),(9,.int .i64 ws.length),(10,.int .i64 i)]) (fun out=>[(3,.row .own 1 ((out).map eS)),(8,.row .own 1 (ws.map eS)),(9,.int .i64 ws.length),(10,.int .i64 (ws).length),(11,.bool false)]) (fun i b out hi hl hout=>?_) (fun out hout=>?_)
 ·have hw:=aM i (by first | omega | (simp at hl; omega))
  obtain ⟨_,rfl⟩:=List.getElem?_eq_some_iff.1 hi
  have hlo : out.length≤i:=by rw [hout]; exact Mp iR Pz ws i
  have hlz : (out.length + 1) * 16≤140737488355328:=by omega
  have hc:=KY ws[i] (by have:=hb _ (List.getElem_mem hl); omega)
  unfold iR
  by_cases ht : fq ws[i] = []
  ·simp -implicitDefEqProofs [tO,B9,hl,hw,hc,eq_true ht]
  simp -implicitDefEqProofs [tO,B9,hl,hw,hc,eq_false ht,cQ,hlz]
 ·simp -implicitDefEqProofs [tO,B9]
theorem KX (s : ag) (hb : s.length≤1073741824) : ev LI TT 412 [.str ⟨s.toArray⟩] = some (.row .own 1 ((gB s).map eS),[.dead]):=by
 rw [aq (b:=Cb) (rs:=[.t 2]) (n:=1) rfl rfl]
 rw [Qi s,show (fun w=>if fq w≠[] then [fq w] else []) = iR from rfl]
 have u1:=qF  s 44 (by omega)
 try simp at u1
 have u2:=Q0  s (bg 44 s) (fun w hw=>by have:=mU 44 s w hw; omega) (by have:=PB 44 s; omega)
 try simp at u2
 simp -implicitDefEqProofs [Cb,u1,u2]
 all_goals (repeat' split) <;> first | rfl | omega | (simp_all; done) | (simp_all; omega) | skip
theorem Sr (l : List ag) (hl0 : l.length≤1073741824) (hb : ∀ w∈l,w.length≤1073741824) : aC (ai (ev LI TT) (aj TT) zT) [(0,.row .af 1 (l.map eS)),(3,.int .i64 0)] = if aI dI (l) = true then some (.exit 0,[(0,.row .af 1 (l.map eS)),(3,.int .i64 (l).length),(7,.bool false)]) else some (.ret,[(2,.bool false)]):=by
 refine cG (f:=ai (ev LI TT) (aj TT) zT) (l) (fun i=>[(0,.row .af 1 (l.map eS)),(3,.int .i64 i)]) dI _ _ (fun i b hi hl=>?_) ?_
 ·have hw:=aM i (by first | omega | (simp at hl; omega))
  obtain ⟨_,rfl⟩:=List.getElem?_eq_some_iff.1 hi
  have u1:=FP  l[i] (by have:=hb _ (List.getElem_mem hl); omega)
  try simp at u1
  simp -implicitDefEqProofs [zT,JB,hl,hw,u1]
  all_goals (repeat' split) <;> first | rfl | omega | (simp_all; done) | (simp_all; omega) | skip
 ·simp -implicitDefEqProofs [zT,JB]
theorem Vh (l : List ag) (hl0 : l.length≤1073741824) (hb : ∀ w∈l,w.length≤1073741824) : ev LI TT 252 [.row .af 1 (l.map eS)] = some (.bool ((aI dI l && decide ((l.length : Int)≤4))),[.dead]):=by
 rw [aq (b:=Ew) (rs:=[.t 2]) (n:=1) rfl rfl]
 have u1:=Sr  l hl0 hb
 try simp at u1
 simp -implicitDefEqProofs [Ew,u1]
 all_goals (repeat' split) <;> first | rfl | omega | (simp_all; done) | (simp_all; omega) | skip
theorem Ra (l : List ag) (hl0 : l.length≤1073741824) (hb : ∀ w∈l,w.length≤1073741824) : aC (ai (ev LI TT) (aj TT) xK) [(0,.row .af 1 (l.map eS)),(5,.row .af 1 (l.map eS)),(6,.int .i64 l.length),(7,.int .i64 0)] = if aI dI (l) = true then some (.exit 0,[(0,.row .af 1 (l.map eS)),(5,.row .af 1 (l.map eS)),(6,.int .i64 l.length),(7,.int .i64 (l).length),(8,.bool false)]) else some (.ret,[(2,.bool false)]):=by
 refine cG (f:=ai (ev LI TT) (aj TT) xK) (l) (fun i=>[(0,.row .af 1 (l.map eS)),(5,.row .af 1 (l.map eS)),(6,.int .i64 l.length),(7,.int .i64 i)]) dI _ _ (fun i b hi hl=>?_) ?_
 ·have hw:=aM i (by first | omega | (simp at hl; omega))
  obtain ⟨_,rfl⟩:=List.getElem?_eq_some_iff.1 hi
  have u1:=Fw  l[i] (by have:=hb _ (List.getElem_mem hl); omega)
  try simp at u1
  simp -implicitDefEqProofs [xK,HC,hl,hw,u1]
  all_goals (repeat' split) <;> first | rfl | omega | (simp_all; done) | (simp_all; omega) | skip
 ·simp -implicitDefEqProofs [xK,HC]
theorem TR (l : List ag) (hl0 : l.length≤1073741824) (hb : ∀ w∈l,w.length≤1073741824) : ev LI TT 340 [.row .af 1 (l.map eS)] = some (.bool ((aI dI l && decide ((l.length : Int)≤4))),[.dead]):=by
 rw [aq (b:=Cx) (rs:=[.t 2]) (n:=1) rfl rfl]
 have u1:=Ra  l hl0 hb
 try simp at u1
 simp -implicitDefEqProofs [Cx,u1]
 all_goals (repeat' split) <;> first | rfl | omega | (simp_all; done) | (simp_all; omega) | skip
end M
namespace M
open Go
theorem Si (fs : List aF) (n : ag) (hb : fs.length≤9223372036854775807) : aC (ai (ev LI TT) (aj TT) zN) [(0,.row .af 2 (fs.map aG)),(1,.str ⟨n.toArray⟩),(5,.int .i64 0)] = (cC (fun f=>decide (f.name = n)) 0 (fs)).elim (some (.exit 0,[(0,.row .af 2 (fs.map aG)),(1,.str ⟨n.toArray⟩),(5,.int .i64 (fs).length),(9,.bool false)])) fun x=>some (.ret,(fun (i : Nat) b=>[(4,.int .i64 i)]) x.1 x.2):=by
 refine pT (f:=ai (ev LI TT) (aj TT) zN) (fs) (fun i=>[(0,.row .af 2 (fs.map aG)),(1,.str ⟨n.toArray⟩),(5,.int .i64 i)]) (fun f=>decide (f.name = n)) (fun (i : Nat) b=>[(4,.int .i64 i)]) _ (fun i b hi hl=>?_) ?_
 ·have hw:=aM i (by first | omega | (simp at hl; omega))
  obtain ⟨_,rfl⟩:=List.getElem?_eq_some_iff.1 hi
  simp -implicitDefEqProofs [zN,Jz,hl,hw]
 ·simp -implicitDefEqProofs [zN,Jz]
theorem Lj (fs : List aF) (n : ag) (hb : fs.length≤9223372036854775807) : ev LI TT 328 [.row .af 2 (fs.map aG),.str ⟨n.toArray⟩] = some (.int .i64 (ji (iV fs n)),[.dead,.dead]):=by
 rw [aq (b:=zO) (rs:=[.t 4]) (n:=2) rfl rfl]
 have h:=Si  fs n hb
 rw [show cC (fun f=>decide (f.name = n)) 0 fs = iV fs n from rfl] at h
 simp at h
 cases g : iV fs n with
 | none=>rw [g] at h; simp at h; simp -implicitDefEqProofs [zO,h,ji]
 | some x =>
 rw [g] at h
 simp at h
 simp -implicitDefEqProofs [zO,h,ji]
 all_goals (repeat' split) <;> first | rfl | omega | (simp_all; done) | (simp_all; omega) | skip
theorem FM (fs : List aF) (n : ag) (hb : fs.length≤9223372036854775807) : ev LI TT 214 [.row .af 2 (fs.map aG),.str ⟨n.toArray⟩] = some (.au [.str ⟨((dA fs n).getD []).toArray⟩,.bool (dA fs n).isSome],[.dead,.dead]):=by
 rw [aq (b:=zg) (rs:=[.t 4,.t 5]) (n:=2) rfl rfl]
 have h:=Lj  fs n hb
 unfold dA
 cases g : iV fs n with
 | none=>rw [g] at h; simp [ji] at h; simp -implicitDefEqProofs [zg,h]
 | some x =>
 obtain ⟨i,b⟩:=x
 rw [g] at h
 obtain ⟨h1,h2,h3⟩:=oV g
 simp at h2
 simp [ji] at h
 have hi : i < fs.length:=(List.getElem?_eq_some_iff.1 h2).1
 obtain ⟨_,rfl⟩:=List.getElem?_eq_some_iff.1 h2
 simp -implicitDefEqProofs [zg,h,hi]
 all_goals (repeat' split) <;> first | rfl | omega | (simp_all; done) | (simp_all; omega) | skip
theorem TN (f : aF) (n : ag) : ev LI TT 440 [.agg (aG f),.ptr .af [.str ⟨n.toArray⟩]] = some (.bool (decide (f.name = n)),[.dead,.dead]):=by
 rw [aq (b:=Ck) (rs:=[.t 3]) (n:=2) rfl rfl]
 simp -implicitDefEqProofs [Ck]
 all_goals (repeat' split) <;> first | rfl | omega | (simp_all; done) | (simp_all; omega) | skip
theorem Sw (fs : List aF) (n : ag) (hb : fs.length≤9223372036854775807) : aC (ai (ev LI TT) (aj TT) Ao) [(0,.row .af 2 (fs.map aG)),(1,.fn 440 [.ptr .af [.str ⟨n.toArray⟩]]),(7,.int .i64 fs.length),(8,.int .i64 0)] = (cC (fun f=>decide (f.name = n)) 0 (fs)).elim (some (.exit 0,[(0,.row .af 2 (fs.map aG)),(1,.fn 440 [.ptr .af [.str ⟨n.toArray⟩]]),(7,.int .i64 fs.length),(8,.int .i64 (fs).length),(9,.bool false)])) fun x=>some (.ret,(fun (i : Nat) b=>[(4,.int .i64 i)]) x.1 x.2):=by
 refine pT (f:=ai (ev LI TT) (aj TT) Ao) (fs) (fun i=>[(0,.row .af 2 (fs.map aG)),(1,.fn 440 [.ptr .af [.str ⟨n.toArray⟩]]),(7,.int .i64 fs.length),(8,.int .i64 i)]) (fun f=>decide (f.name = n)) (fun (i : Nat) b=>[(4,.int .i64 i)]) _ (fun i b hi hl=>?_) ?_
 ·have hw:=aM i (by first | omega | (simp at hl; omega))
  obtain ⟨_,rfl⟩:=List.getElem?_eq_some_iff.1 hi
  have ho : aj TT 440 = true:=rfl
  have hf:=TN  fs[i] n
  simp at hf
  simp -implicitDefEqProofs [Ao,J7,hl,hw,ho,tV,hf]
 ·simp -implicitDefEqProofs [Ao,J7]
theorem Vl (fs : List aF) (n : ag) (hb : fs.length≤9223372036854775807) : ev LI TT 439 [.row .af 2 (fs.map aG),.fn 440 [.ptr .af [.str ⟨n.toArray⟩]]] = some (.int .i64 (ji (iV fs n)),[.dead,.dead]):=by
 rw [aq (b:=Ap) (rs:=[.t 4]) (n:=2) rfl rfl]
 have h:=Sw  fs n hb
 rw [show cC (fun f=>decide (f.name = n)) 0 fs = iV fs n from rfl] at h
 simp at h
 cases g : iV fs n with
 | none=>rw [g] at h; simp at h; simp -implicitDefEqProofs [Ap,h,ji]
 | some x =>
 rw [g] at h
 simp at h
 simp -implicitDefEqProofs [Ap,h,ji]
 all_goals (repeat' split) <;> first | rfl | omega | (simp_all; done) | (simp_all; omega) | skip
theorem K1 (fs : List aF) (n : ag) (hb : fs.length≤9223372036854775807) : ev LI TT 410 [.row .af 2 (fs.map aG),.str ⟨n.toArray⟩] = some (.int .i64 (ji (iV fs n)),[.dead,.dead]):=by
 rw [aq (b:=Cl) (rs:=[.t 4]) (n:=2) rfl rfl]
 have h:=Vl  fs n hb
 simp -implicitDefEqProofs [Cl,h,iQ,fH]
 all_goals (repeat' split) <;> first | rfl | omega | (simp_all; done) | (simp_all; omega) | skip
theorem Fv (fs : List aF) (n : ag) (hb : fs.length≤9223372036854775807) : ev LI TT 377 [.row .af 2 (fs.map aG),.str ⟨n.toArray⟩] = some (.au [.str ⟨((dA fs n).getD []).toArray⟩,.bool (dA fs n).isSome],[.dead,.dead]):=by
 rw [aq (b:=xl) (rs:=[.t 4,.t 5]) (n:=2) rfl rfl]
 have h:=K1  fs n hb
 unfold dA
 cases g : iV fs n with
 | none=>rw [g] at h; simp [ji] at h; simp -implicitDefEqProofs [xl,h]
 | some x =>
 obtain ⟨i,b⟩:=x
 rw [g] at h
 obtain ⟨h1,h2,h3⟩:=oV g
 simp at h2
 simp [ji] at h
 have hi : i < fs.length:=(List.getElem?_eq_some_iff.1 h2).1
 obtain ⟨_,rfl⟩:=List.getElem?_eq_some_iff.1 h2
 simp -implicitDefEqProofs [xl,h,hi]
 all_goals (repeat' split) <;> first | rfl | omega | (simp_all; done) | (simp_all; omega) | skip
end M
namespace M
open Go
theorem yK : (⟨#[99,111,110,116,101,110,116,45,108,101,110,103,116,104]⟩ : ByteArray) = ⟨cT.toArray⟩:=rfl
theorem RN (fs : List aF) (hb : wL aJ fs≤1073741824) : aC (ai (ev LI TT) (aj TT) n7) [(0,.row .af 2 (fs.map aG)),(3,.int .i64 0)] = if aI (iD fs) (fs.zipIdx) = true then some (.exit 0,[(0,.row .af 2 (fs.map aG)),(3,.int .i64 (fs.zipIdx).length),(7,.bool false)]) else some (.ret,[(2,.bool false)]):=by
 refine cG (f:=ai (ev LI TT) (aj TT) n7) (fs.zipIdx) (fun i=>[(0,.row .af 2 (fs.map aG)),(3,.int .i64 i)]) (iD fs) _ _ (fun i b hi hl=>?_) ?_
 ·have hw:=aM i (by have:=aY (w:=aJ) fs; simp at hl; omega)
  obtain ⟨_,rfl⟩:=List.getElem?_eq_some_iff.1 hi
  simp only [List.length_zipIdx] at hl
  have hz : fs.zipIdx[i]'(by simpa using hl) = (fs[i],i):=by simp
  have hm:=EV (List.getElem_mem hl)
  have hfl:=aY (w:=aJ) fs
  rw [hz]
  have u1:=FP  fs[i].name (by omega)
  try simp at u1
  have u2:=FR  fs[i].value (by omega)
  try simp at u2
  have u3:=Lj  fs fs[i].name (by omega)
  try simp at u3
  by_cases g1 : dI fs[i].name = true
  rotate_left
  ·simp -implicitDefEqProofs [n7,rV,hl,hw,u1,u2,u3,iD,g1]
  by_cases g2 : eX fs[i].value = true
  rotate_left
  ·simp -implicitDefEqProofs [n7,rV,hl,hw,u1,u2,u3,iD,g1,g2]
  by_cases g3 : ji (iV fs fs[i].name) = i
  rotate_left
  ·simp -implicitDefEqProofs [n7,rV,hl,hw,u1,u2,u3,iD,g1,g2,eq_false g3]
  by_cases hcl : fs[i].name = cT
  ·simp -implicitDefEqProofs [n7,rV,hl,hw,u1,u2,u3,g1,g2,eq_true g3,iD,yK,eq_true hcl]
  simp -implicitDefEqProofs [n7,rV,hl,hw,u1,u2,u3,iD,g1,g2,eq_true g3,yK,eq_false hcl]
  all_goals (repeat' split) <;> first | rfl | omega | (simp_all; done) | (simp_all; omega) | skip
 ·simp -implicitDefEqProofs [n7,rV]
theorem K9 (fs : List aF) (hb : wL aJ fs≤1073741824) : ev LI TT 250 [.row .af 2 (fs.map aG)] = some (.bool ((iC fs)),[.dead]):=by
 rw [aq (b:=DV) (rs:=[.t 2]) (n:=1) rfl rfl]
 unfold iC
 have hfl:=aY (w:=aJ) fs
 have u1:=RN  fs hb
 try simp at u1
 simp -implicitDefEqProofs [DV,u1]
 all_goals (repeat' split) <;> first | rfl | omega | (simp_all; done) | (simp_all; omega) | skip
theorem QT (fs : List aF) (hb : wL aJ fs≤1073741824) : aC (ai (ev LI TT) (aj TT) nI) [(0,.row .af 2 (fs.map aG)),(5,.row .af 2 (fs.map aG)),(6,.int .i64 fs.length),(7,.int .i64 0)] = if aI (iD fs) (fs.zipIdx) = true then some (.exit 0,[(0,.row .af 2 (fs.map aG)),(5,.row .af 2 (fs.map aG)),(6,.int .i64 fs.length),(7,.int .i64 (fs.zipIdx).length),(8,.bool false)]) else some (.ret,[(2,.bool false)]):=by
 refine cG (f:=ai (ev LI TT) (aj TT) nI) (fs.zipIdx) (fun i=>[(0,.row .af 2 (fs.map aG)),(5,.row .af 2 (fs.map aG)),(6,.int .i64 fs.length),(7,.int .i64 i)]) (iD fs) _ _ (fun i b hi hl=>?_) ?_
 ·have hw:=aM i (by have:=aY (w:=aJ) fs; simp at hl; omega)
  obtain ⟨_,rfl⟩:=List.getElem?_eq_some_iff.1 hi
  simp only [List.length_zipIdx] at hl
  have hz : fs.zipIdx[i]'(by simpa using hl) = (fs[i],i):=by simp
  have hm:=EV (List.getElem_mem hl)
  have hfl:=aY (w:=aJ) fs
  rw [hz]
  have u1:=Fw  fs[i].name (by omega)
  try simp at u1
  have u2:=Fx  fs[i].value (by omega)
  try simp at u2
  have u3:=K1  fs fs[i].name (by omega)
  try simp at u3
  by_cases g1 : dI fs[i].name = true
  rotate_left
  ·simp -implicitDefEqProofs [nI,rj,hl,hw,u1,u2,u3,iD,g1]
  by_cases g2 : eX fs[i].value = true
  rotate_left
  ·simp -implicitDefEqProofs [nI,rj,hl,hw,u1,u2,u3,iD,g1,g2]
  by_cases hcl : fs[i].name = cT
  ·simp -implicitDefEqProofs [nI,rj,hl,hw,u1,u2,u3,g1,g2,iD,yK,eq_true hcl]
  by_cases g3 : ji (iV fs fs[i].name) = i
  rotate_left
  ·simp -implicitDefEqProofs [nI,rj,hl,hw,u1,u2,u3,g1,g2,iD,yK,eq_false hcl,eq_false g3]
  simp -implicitDefEqProofs [nI,rj,hl,hw,u1,u2,u3,iD,g1,g2,yK,eq_false hcl,eq_true g3]
  all_goals (repeat' split) <;> first | rfl | omega | (simp_all; done) | (simp_all; omega) | skip
 ·simp -implicitDefEqProofs [nI,rj]
theorem KO (fs : List aF) (hb : wL aJ fs≤1073741824) : ev LI TT 338 [.row .af 2 (fs.map aG)] = some (.bool ((iC fs)),[.dead]):=by
 rw [aq (b:=BZ) (rs:=[.t 2]) (n:=1) rfl rfl]
 unfold iC
 have hfl:=aY (w:=aJ) fs
 have u1:=QT  fs hb
 try simp at u1
 simp -implicitDefEqProofs [BZ,u1]
 all_goals (repeat' split) <;> first | rfl | omega | (simp_all; done) | (simp_all; omega) | skip
theorem Ld (r : bP) (hb : bp r≤1073741824) : ev LI TT 251 [.agg (gG .af r)] = some (.bool ((eT r)),[.dead]):=by
 rw [aq (b:=r9) (rs:=[.t 2]) (n:=1) rfl rfl]
 have hw : bp r = wL aJ r.fields + r.body.length:=rfl
 unfold eT
 have u1:=K9  r.fields (by omega)
 try simp at u1
 by_cases g1 : 100≤r.status
 rotate_left
 ·simp -implicitDefEqProofs [r9,u1,eq_false g1]
 by_cases g2 : r.status≤599
 rotate_left
 ·simp -implicitDefEqProofs [r9,u1,eq_true g1,eq_false g2]
 by_cases g3 : iC r.fields = true
 rotate_left
 ·simp -implicitDefEqProofs [r9,u1,eq_true g1,eq_true g2,g3]
 simp -implicitDefEqProofs [r9,u1,eq_true g1,eq_true g2,g3]
 all_goals (repeat' split) <;> first | rfl | omega | (simp_all; done) | (simp_all; omega) | skip
theorem KT (r : bP) (hb : bp r≤1073741824) : ev LI TT 322 [.agg (gG .af r)] = some (.bool ((eT r)),[.dead]):=by
 rw [aq (b:=ru) (rs:=[.t 2]) (n:=1) rfl rfl]
 have hw : bp r = wL aJ r.fields + r.body.length:=rfl
 unfold eT
 have u1:=KO  r.fields (by omega)
 try simp at u1
 by_cases g1 : 100≤r.status
 rotate_left
 ·simp -implicitDefEqProofs [ru,u1,eq_false g1]
 by_cases g2 : r.status≤599
 rotate_left
 ·simp -implicitDefEqProofs [ru,u1,eq_true g1,eq_false g2]
 by_cases g3 : (r.body.length : Int)≤120
 rotate_left
 ·simp -implicitDefEqProofs [ru,u1,eq_true g1,eq_true g2,eq_false g3]
 simp -implicitDefEqProofs [ru,u1,eq_true g1,eq_true g2,eq_true g3]
 all_goals (repeat' split) <;> first | rfl | omega | (simp_all; done) | (simp_all; omega) | skip
end M
namespace M
open Go
theorem Ai (s : ag) : (gB s).length≤s.length + 1:=by
 unfold gB
 have h1:=List.length_filter_le (fun w : ag=>decide (w≠[])) ((bg 44 s).map fq)
 have h2:=PB 44 s
 simp only [List.length_map] at h1
 omega
theorem Aj (s : ag) : ∀ w∈gB s,w.length≤s.length:=by
 intro w hw
 unfold gB at hw
 obtain ⟨x,hx,rfl⟩:=List.mem_map.1 (List.mem_filter.1 hw).1
 have h1:=mU 44 s x hx
 have h2:=P0 x
 omega
theorem R8 (ws : List ag) (hl0 : ws.length≤1073741825) (hb : ∀ w∈ws,w.length≤1073741824) : aC (ai (ev LI TT) (aj TT) zE) [(5,.row .own 1 ((iM bW ws 0).map eS)),(6,.int .i64 0)] = some (.exit 0,[(5,.row .own 1 ((iM bW ws (ws).length).map eS)),(6,.int .i64 (ws).length),(17,.bool false)]):=by
 refine lF (f:=ai (ev LI TT) (aj TT) zE) (ws) (fun i=>[(5,.row .own 1 ((iM bW ws i).map eS)),(6,.int .i64 i)]) _ (fun i b hi hl=>?_) ?_
 ·have hw:=aM i (by first | omega | (simp at hl; omega))
  obtain ⟨_,rfl⟩:=List.getElem?_eq_some_iff.1 hi
  have h1:=abT bW ws i hl
  have h2:=abU bW ws i hl
  have u1:=La  ws[i] (hb _ (List.getElem_mem hl))
  try simp at u1
  simp -implicitDefEqProofs [zE,Jr,hl,hw,u1,h1,h2,rowAt,-List.map_set]
 ·simp -implicitDefEqProofs [zE,Jr,rowAt]
theorem Lg (fs : List aF) (hb : wL aJ fs≤1073741824) : ev LI TT 254 [.row .af 2 (fs.map aG)] = some (.row .own 1 ((fK fs).map eS),[.dead]):=by
 rw [aq (b:=Ee) (rs:=[.t 2]) (n:=1) rfl rfl]
 have hfl:=aY (w:=aJ) fs
 have hg:=tq fs iO
 have u1:=FM  fs iO (by omega)
 try simp at u1
 have u2:=Lf  ((dA fs iO).getD []) (by omega)
 try simp at u2
 have u3:=R8  (gB ((dA fs iO).getD [])) (by have:=Ai ((dA fs iO).getD []); omega) (fun w hw=>by have:=Aj _ w hw; omega)
 try simp at u3
 rw [abV,abR,show (gB ((dA fs iO).getD [])).map bW = fK fs from rfl] at u3
 simp -implicitDefEqProofs [Ee,u1,u2,u3]
 all_goals (repeat' split) <;> first | rfl | omega | (simp_all; done) | (simp_all; omega) | skip
theorem Q3 (ws : List ag) (hl0 : ws.length≤1073741825) (hb : ∀ w∈ws,w.length≤1073741824) : aC (ai (ev LI TT) (aj TT) xG) [(5,.row .own 1 (([]).map eS)),(14,.row .own 1 (ws.map eS)),(15,.int .i64 ws.length),(16,.int .i64 0)] = some (.exit 0,[(5,.row .own 1 ((((ws).flatMap (fun w=>[bW w]))).map eS)),(14,.row .own 1 (ws.map eS)),(15,.int .i64 ws.length),(16,.int .i64 (ws).length),(17,.bool false)]):=by
 refine Dk (f:=ai (ev LI TT) (aj TT) xG) (ws) (fun w=>[bW w]) (fun i out=>[(5,.row .own 1 ((out).map eS)),(14,.row .own 1 (ws.map eS)),(15,.int .i64 ws.length),(16,.int .i64 i)]) (fun out=>[(5,.row .own 1 ((out).map eS)),(14,.row .own 1 (ws.map eS)),(15,.int .i64 ws.length),(16,.int .i64 (ws).length),(17,.bool false)]) (fun i b out hi hl hout=>?_) (fun out hout=>?_)
 ·have hw:=aM i (by first | omega | (simp at hl; omega))
  obtain ⟨_,rfl⟩:=List.getElem?_eq_some_iff.1 hi
  have hlo : out.length = i:=by rw [hout]; exact Mq _ _ _ (by omega)
  have hlz : (i + 1) * 16≤140737488355328:=by omega
  have u1:=KP  ws[i] (hb _ (List.getElem_mem hl))
  try simp at u1
  simp -implicitDefEqProofs [xG,Hz,hl,hw,u1,hlo,hlz,cQ]
 ·simp -implicitDefEqProofs [xG,Hz]
theorem KZ (fs : List aF) (hb : wL aJ fs≤1073741824) : ev LI TT 341 [.row .af 2 (fs.map aG)] = some (.row .own 1 ((fK fs).map eS),[.dead]):=by
 rw [aq (b:=Cg) (rs:=[.t 2]) (n:=1) rfl rfl]
 have hfl:=aY (w:=aJ) fs
 have hg:=tq fs iO
 have u1:=Fv  fs iO (by omega)
 try simp at u1
 have u2:=KX  ((dA fs iO).getD []) (by omega)
 try simp at u2
 have u3:=Q3  (gB ((dA fs iO).getD [])) (by have:=Ai ((dA fs iO).getD []); omega) (fun w hw=>by have:=Aj _ w hw; omega)
 try simp at u3
 rw [Gu,show (gB ((dA fs iO).getD [])).map bW = fK fs from rfl] at u3
 simp -implicitDefEqProofs [Cg,u1,u2,u3]
 all_goals (repeat' split) <;> first | rfl | omega | (simp_all; done) | (simp_all; omega) | skip
theorem J1 (fs : List aF) : (fK fs).length≤wL aJ fs + 1:=by
 have h1:=Ai ((dA fs iO).getD [])
 have h2:=tq fs iO
 simp [fK]; omega
end M
namespace M
open Go
theorem Sv (ps : List (ag×ag)) (hb : ps.length≤9223372036854775807) : aC (ai (ev LI TT) (aj TT) An) [(0,.row .af 1 (ps.map fun x=>eS x.1)),(1,.row .af 1 (ps.map fun x=>eS x.2)),(12,.int .i64 ps.length),(13,.int .i64 0)] = if aI b8 (ps) = true then some (.exit 0,[(0,.row .af 1 (ps.map fun x=>eS x.1)),(1,.row .af 1 (ps.map fun x=>eS x.2)),(12,.int .i64 ps.length),(13,.int .i64 ps.length),(14,.bool false)]) else some (.ret,[(4,.bool false)]):=by
 refine cG (f:=ai (ev LI TT) (aj TT) An) (ps) (fun i=>[(0,.row .af 1 (ps.map fun x=>eS x.1)),(1,.row .af 1 (ps.map fun x=>eS x.2)),(12,.int .i64 ps.length),(13,.int .i64 i)]) b8 _ _ (fun i b hi hl=>?_) ?_
 ·have hw:=aM i (by first | omega | (simp at hl; omega))
  obtain ⟨_,rfl⟩:=List.getElem?_eq_some_iff.1 hi
  simp -implicitDefEqProofs [An,J6,hl,hw,b8]
  first | done | (split <;> simp_all)
 ·simp -implicitDefEqProofs [An,J6]
theorem FX (a b : List ag) (hb : a.length≤9223372036854775807) : ev LI TT 286 [.row .af 1 (a.map eS),.row .af 1 (b.map eS)] = some (.bool (decide (a = b)),[.dead,.dead]):=by
 rw [aq (b:=E0) (rs:=[.t 4]) (n:=2) rfl rfl]
 simp -implicitDefEqProofs [E0]
 by_cases h : a.length = b.length
 ·obtain ⟨ps,rfl,rfl⟩:=j9 h
  have h1:=Sv  ps (by simpa using hb)
  have h2:=jE ps
  simp at h1
  cases h3 : aI b8 ps <;> rw [h3] at h1 h2 <;> simp [h1,Function.comp_def,← h2]
 ·have : ¬ a = b:=fun e=>h (by rw [e])
  simp [this]
  omega
theorem QG : ∀ {a b : List ag},(∀ x∈a.zip b,¬ (decide (x.1≠x.2)) = true)→a.length = b.length→a = b
 | [],[],_,_=>rfl
 | x :: a,y :: b,h,hl=>by
  have h1:=h (x,y) (by simp)
  simp at h1
  have h2 : a = b:=QG (fun z hz=>h z (by simp only [List.zip_cons_cons]; exact List.mem_cons_of_mem _ hz)) (by simpa using hl)
  rw [h1,h2]
theorem aiE {a b : List ag} {x : ag×ag} (hx : x∈a.zip b) (h : x.1≠x.2) : a≠b:=by
 rintro rfl
 have : ∀ {l : List ag} {x : ag×ag},x∈l.zip l→x.1 = x.2:=by
  intro l
  induction l with
  | nil=>intro x h; simp at h
  | cons y l ih =>
   intro x h
   simp only [List.zip_cons_cons,List.mem_cons] at h
   rcases h with rfl | h
   ·rfl
   ·exact ih h
 exact h (this hx)
theorem Sq (a b : List ag) (hb : a.length≤9223372036854775807) (fQ : b.length≤9223372036854775807) : aC (ai (ev LI TT) (aj TT) vm) [(0,.row .af 1 (a.map eS)),(1,.row .af 1 (b.map eS)),(5,.int .i64 0)] = (cC (fun x=>decide (x.1≠x.2)) 0 (a.zip b)).elim (some (.exit 0,[(0,.row .af 1 (a.map eS)),(1,.row .af 1 (b.map eS)),(5,.int .i64 (a.zip b).length),(15,.bool false)])) fun x=>some (.ret,(fun (i : Nat) b=>[(4,.bool false)]) x.1 x.2):=by
 refine pT (f:=ai (ev LI TT) (aj TT) vm) (a.zip b) (fun i=>[(0,.row .af 1 (a.map eS)),(1,.row .af 1 (b.map eS)),(5,.int .i64 i)]) (fun x=>decide (x.1≠x.2)) (fun (i : Nat) b=>[(4,.bool false)]) _ (fun i b hi hl=>?_) ?_
 ·have hw:=aM i (by first | omega | (simp at hl; omega))
  obtain ⟨_,rfl⟩:=List.getElem?_eq_some_iff.1 hi
  have ha : i < a.length:=by simp at hl; omega
  have hb' : i < b.length:=by simp at hl; omega
  simp -implicitDefEqProofs [vm,Ev,hl,hw,ha,hb']
 ·have hz : (a.zip b).length = min a.length b.length:=by simp
  rw [hz]
  by_cases hh : a.length≤b.length
  ·rw [Nat.min_eq_left hh]; simp -implicitDefEqProofs [vm,Ev]
  have h1 : b.length≤a.length:=by omega
  have h2 : (b.length : Int) < a.length:=by omega
  have h3 : b.length < a.length:=by omega
  rw [Nat.min_eq_right h1]
  simp -implicitDefEqProofs [vm,Ev,h2,h3]
theorem FV (a b : List ag) (hb : a.length≤9223372036854775807) (fQ : b.length≤9223372036854775807) : ev LI TT 253 [.row .af 1 (a.map eS),.row .af 1 (b.map eS)] = some (.bool (decide (a = b)),[.dead,.dead]):=by
 rw [aq (b:=vn) (rs:=[.t 4]) (n:=2) rfl rfl]
 have h:=Sq  a b hb fQ
 cases g : cC (fun x : ag×ag=>decide (x.1≠x.2)) 0 (a.zip b) with
 | some x =>
  obtain ⟨i,x⟩:=x
  obtain ⟨_,h1,h2⟩:=oV g
  have h3 : ¬ a = b:=aiE (List.mem_of_getElem? h1) (by simpa using h2)
  rw [g] at h; simp only [Option.elim] at h; simp -implicitDefEqProofs [vn,h,h3]
 | none =>
 have h1:=Bj.1 g
 rw [g] at h
 simp only [Option.elim] at h
 try simp at h
 by_cases hl : a.length = b.length
 ·have h2:=QG h1 hl
  subst h2
  try simp at h
  simp -implicitDefEqProofs [vn,h]
 have h3 : ¬ a = b:=fun e=>hl (by rw [e])
 have h4 : ¬ (a.length : Int) = b.length:=by omega
 simp -implicitDefEqProofs [vn,h,h3,h4]
 all_goals (repeat' split) <;> first | rfl | omega | (simp_all; done) | (simp_all; omega) | skip
end M
namespace M
open Go
theorem RW (o : Ob) (hb : wL wS o.values≤1073741824) : aC (ai (ev LI TT) (aj TT) zn) [(1,.ptr .own (bn .af o)),(3,.int .i64 0)] = if aI eX (o.values) = true then some (.exit 0,[(1,.ptr .own (bn .af o)),(3,.int .i64 (o.values).length),(49,.bool false)]) else some (.ret,[(2,.bool false)]):=by
 refine cG (f:=ai (ev LI TT) (aj TT) zn) (o.values) (fun i=>[(1,.ptr .own (bn .af o)),(3,.int .i64 i)]) eX _ _ (fun i b hi hl=>?_) ?_
 ·have hw:=aM i (by have:=aY (w:=wS) o.values; omega)
  obtain ⟨_,rfl⟩:=List.getElem?_eq_some_iff.1 hi
  have hm:=vE (List.getElem_mem hl)
  have u1:=FR  o.values[i] (by omega)
  try simp at u1
  simp -implicitDefEqProofs [zn,Ji,hl,hw,u1]
  all_goals (repeat' split) <;> first | rfl | omega | (simp_all; done) | (simp_all; omega) | skip
 ·simp -implicitDefEqProofs [zn,Ji]
theorem AP (o : Ob) (hb : aV o≤1073741824) : ev LI TT 161 [.agg (bn .af o)] = some (.bool ((cy o)),[.dead]):=by
 rw [aq (b:=kN) (rs:=[.t 2]) (n:=1) rfl rfl]
 have hw : aV o = o.path.length + wL wS o.names + wL wS o.values + bp o.resp:=rfl
 have eE : bp o.resp = wL aJ o.resp.fields + o.resp.body.length:=rfl
 have hn:=aY (w:=wS) o.names
 have hv:=aY (w:=wS) o.values
 have hvl:=J1 o.resp.fields
 unfold cy uJ
 have u1:=Ld  o.resp (by omega)
 try simp at u1
 have u2:=FU  o.path (by omega)
 try simp at u2
 have u3:=Vh  o.names (by omega) (fun w hw=>by have:=vE hw; omega)
 try simp at u3
 have u4:=Lg  o.resp.fields (by omega)
 try simp at u4
 have u5:=FV  o.names (fK o.resp.fields) (by omega) (by omega)
 try simp at u5
 have u6:=RW  o (by omega)
 try simp at u6
 by_cases g1 : eT o.resp = true
 rotate_left
 ·simp -implicitDefEqProofs [kN,u1,u2,u3,u4,u5,u6,g1]
 by_cases g2 : fZ o.path = true
 rotate_left
 ·simp -implicitDefEqProofs [kN,u1,u2,u3,u4,u5,u6,g1,g2]
 by_cases g3 : 0≤o.t
 rotate_left
 ·simp -implicitDefEqProofs [kN,u1,u2,u3,u4,u5,u6,g1,g2,eq_false g3]
 by_cases g4 : o.t≤1000000
 rotate_left
 ·simp -implicitDefEqProofs [kN,u1,u2,u3,u4,u5,u6,g1,g2,eq_true g3,eq_false g4]
 by_cases g5 : aI dI o.names = true
 rotate_left
 ·simp -implicitDefEqProofs [kN,u1,u2,u3,u4,u5,u6,g1,g2,eq_true g3,eq_true g4,g5]
 by_cases g6 : (o.names.length : Int)≤4
 rotate_left
 ·simp -implicitDefEqProofs [kN,u1,u2,u3,u4,u5,u6,g1,g2,eq_true g3,eq_true g4,g5,eq_false g6]
 by_cases g7 : o.names = fK o.resp.fields
 rotate_left
 ·simp -implicitDefEqProofs [kN,u1,u2,u3,u4,u5,u6,g1,g2,eq_true g3,eq_true g4,g5,eq_true g6,eq_false g7]
 by_cases g8 : o.values.length = o.names.length
 rotate_left
 ·have ja : ¬ (o.values.length : Int) = o.names.length:=by omega
  simp -implicitDefEqProofs [kN,u1,u2,u3,u4,u5,u6,g1,g2,eq_true g3,eq_true g4,g5,eq_true g6,eq_true g7,eq_false g8,eq_false ja]
 have ja : (o.values.length : Int) = o.names.length:=by omega
 simp -implicitDefEqProofs [kN,u1,u2,u3,u4,u5,u6,g1,g2,eq_true g3,eq_true g4,g5,eq_true g6,eq_true g7,eq_true g8,eq_true ja]
 all_goals (repeat' split) <;> first | rfl | omega | (simp_all; done) | (simp_all; omega) | skip
theorem QW (o : Ob) (hb : wL wS o.values≤1073741824) : aC (ai (ev LI TT) (aj TT) xq) [(1,.ptr .own (bn .af o)),(5,.aA 1 [] 0 2),(6,.row .af 1 (o.values.map eS)),(7,.int .i64 o.values.length),(8,.int .i64 0)] = if aI eX (o.values) = true then some (.exit 0,[(1,.ptr .own (bn .af o)),(5,.aA 1 [] 0 2),(6,.row .af 1 (o.values.map eS)),(7,.int .i64 o.values.length),(8,.int .i64 (o.values).length),(9,.bool false)]) else some (.ret,[(2,.bool false)]):=by
 refine cG (f:=ai (ev LI TT) (aj TT) xq) (o.values) (fun i=>[(1,.ptr .own (bn .af o)),(5,.aA 1 [] 0 2),(6,.row .af 1 (o.values.map eS)),(7,.int .i64 o.values.length),(8,.int .i64 i)]) eX _ _ (fun i b hi hl=>?_) ?_
 ·have hw:=aM i (by have:=aY (w:=wS) o.values; omega)
  obtain ⟨_,rfl⟩:=List.getElem?_eq_some_iff.1 hi
  have hm:=vE (List.getElem_mem hl)
  have u1:=Fx  o.values[i] (by omega)
  try simp at u1
  simp -implicitDefEqProofs [xq,Hs,hl,hw,u1]
  all_goals (repeat' split) <;> first | rfl | omega | (simp_all; done) | (simp_all; omega) | skip
 ·simp -implicitDefEqProofs [xq,Hs]
theorem AN (o : Ob) (hb : aV o≤1073741824) : ev LI TT 235 [.agg (bn .af o)] = some (.bool ((cy o)),[.dead]):=by
 rw [aq (b:=kD) (rs:=[.t 2]) (n:=1) rfl rfl]
 have hw : aV o = o.path.length + wL wS o.names + wL wS o.values + bp o.resp:=rfl
 have eE : bp o.resp = wL aJ o.resp.fields + o.resp.body.length:=rfl
 have hn:=aY (w:=wS) o.names
 have hv:=aY (w:=wS) o.values
 have hvl:=J1 o.resp.fields
 unfold cy uJ
 have u1:=KT  o.resp (by omega)
 try simp at u1
 have u2:=Fy  o.path (by omega)
 try simp at u2
 have u3:=TR  o.names (by omega) (fun w hw=>by have:=vE hw; omega)
 try simp at u3
 have u4:=KZ  o.resp.fields (by omega)
 try simp at u4
 have u5:=FX  o.names (fK o.resp.fields) (by omega)
 try simp at u5
 have u6:=QW  o (by omega)
 try simp at u6
 by_cases g1 : aI eX o.values = true
 rotate_left
 ·simp -implicitDefEqProofs [kD,u1,u2,u3,u4,u5,u6,g1]
 by_cases g2 : fZ o.path = true
 rotate_left
 ·simp -implicitDefEqProofs [kD,u1,u2,u3,u4,u5,u6,g1,g2]
 by_cases g3 : 0≤o.t
 rotate_left
 ·simp -implicitDefEqProofs [kD,u1,u2,u3,u4,u5,u6,g1,g2,eq_false g3]
 by_cases g4 : o.t≤1000000
 rotate_left
 ·simp -implicitDefEqProofs [kD,u1,u2,u3,u4,u5,u6,g1,g2,eq_true g3,eq_false g4]
 by_cases g8 : o.values.length = o.names.length
 rotate_left
 ·have ja : ¬ (o.values.length : Int) = o.names.length:=by omega
  simp -implicitDefEqProofs [kD,u1,u2,u3,u4,u5,u6,g1,g2,eq_true g3,eq_true g4,eq_false g8,eq_false ja]
 have ja : (o.values.length : Int) = o.names.length:=by omega
 by_cases h5 : aI dI o.names = true
 rotate_left
 ·simp -implicitDefEqProofs [kD,u1,u2,u3,u4,u5,u6,g1,g2,eq_true g3,eq_true g4,eq_true g8,eq_true ja,h5]
 by_cases h6 : (o.names.length : Int)≤4
 rotate_left
 ·simp -implicitDefEqProofs [kD,u1,u2,u3,u4,u5,u6,g1,g2,eq_true g3,eq_true g4,eq_true g8,eq_true ja,h5,eq_false h6]
 by_cases h7 : eT o.resp = true
 rotate_left
 ·simp -implicitDefEqProofs [kD,u1,u2,u3,u4,u5,u6,g1,g2,eq_true g3,eq_true g4,eq_true g8,eq_true ja,h5,eq_true h6,h7]
 simp -implicitDefEqProofs [kD,u1,u2,u3,u4,u5,u6,g1,g2,eq_true g3,eq_true g4,eq_true g8,eq_true ja,h5,eq_true h6,h7]
 all_goals (repeat' split) <;> first | rfl | omega | (simp_all; done) | (simp_all; omega) | skip
theorem FL (b : Bn) (hb : aR b≤1073741824) : ev LI TT 248 [.agg (aS b)] = some (.bool ((dr b)),[.dead]):=by
 rw [aq (b:=n5) (rs:=[.t 2]) (n:=1) rfl rfl]
 have hw : aR b = b.a.length + b.b.length:=rfl
 unfold dr
 have u1:=FU  b.a (by omega)
 try simp at u1
 have u2:=FP  b.a (by omega)
 try simp at u2
 have u3:=FR  b.b (by omega)
 try simp at u3
 by_cases g1 : 0≤b.t
 rotate_left
 ·simp -implicitDefEqProofs [n5,u1,u2,u3,eq_false g1]
 by_cases g2 : b.t≤1000000
 rotate_left
 ·simp -implicitDefEqProofs [n5,u1,u2,u3,eq_true g1,eq_false g2]
 by_cases h1 : b.kind = 1
 ·by_cases h2 : fZ b.a = true <;> simp -implicitDefEqProofs [n5,u1,u2,u3,eq_true g1,eq_true g2,h1,h2]
 by_cases h2 : b.kind = 2
 ·by_cases h3 : fZ b.a = true <;> simp -implicitDefEqProofs [n5,u1,u2,u3,eq_true g1,eq_true g2,h2,h3]
 by_cases h3 : b.kind = 3
 ·by_cases h4 : dI b.a = true <;> simp -implicitDefEqProofs [n5,u1,u2,u3,eq_true g1,eq_true g2,h3,h4]
 simp -implicitDefEqProofs [n5,u1,u2,u3,eq_true g1,eq_true g2,h1,h2,h3]
 all_goals (repeat' split) <;> first | rfl | omega | (simp_all; done) | (simp_all; omega) | skip
theorem Ft (b : Bn) (hb : aR b≤1073741824) : ev LI TT 237 [.agg (aS b)] = some (.bool ((dr b)),[.dead]):=by
 rw [aq (b:=nF) (rs:=[.t 2]) (n:=1) rfl rfl]
 have hw : aR b = b.a.length + b.b.length:=rfl
 unfold dr
 have u1:=Fy  b.a (by omega)
 try simp at u1
 have u2:=Fw  b.a (by omega)
 try simp at u2
 have u3:=Fx  b.b (by omega)
 try simp at u3
 by_cases g1 : 0≤b.t
 rotate_left
 ·simp -implicitDefEqProofs [nF,u1,u2,u3,eq_false g1]
 by_cases g2 : b.t≤1000000
 rotate_left
 ·simp -implicitDefEqProofs [nF,u1,u2,u3,eq_true g1,eq_false g2]
 by_cases h1 : b.kind = 1
 ·by_cases h2 : fZ b.a = true <;> simp -implicitDefEqProofs [nF,u1,u2,u3,eq_true g1,eq_true g2,h1,h2]
 by_cases h2 : b.kind = 2
 ·by_cases h3 : fZ b.a = true <;> simp -implicitDefEqProofs [nF,u1,u2,u3,eq_true g1,eq_true g2,h2,h3]
 by_cases h3 : b.kind = 3
 ·by_cases h4 : dI b.a = true <;> simp -implicitDefEqProofs [nF,u1,u2,u3,eq_true g1,eq_true g2,h3,h4]
 simp -implicitDefEqProofs [nF,u1,u2,u3,eq_true g1,eq_true g2,h1,h2,h3]
 all_goals (repeat' split) <;> first | rfl | omega | (simp_all; done) | (simp_all; omega) | skip
@[simp] theorem ai5 (t : Int) : ev LI TT 287 [.int .i64 t] = some (.bool ((decide (0≤t∧t≤19))),[.dead]):=by
 rw [aq (b:=Cp) (rs:=[.t 2]) (n:=1) rfl rfl]
 simp -implicitDefEqProofs [Cp]
 all_goals (repeat' split) <;> first | rfl | omega | (simp_all; done) | (simp_all; omega) | skip
@[simp] theorem ai6 (t : Int) : ev LI TT 238 [.int .i64 t] = some (.bool ((decide (5≤t∧t≤19))),[.dead]):=by
 rw [aq (b:=Cq) (rs:=[.t 2]) (n:=1) rfl rfl]
 simp -implicitDefEqProofs [Cq]
 all_goals (repeat' split) <;> first | rfl | omega | (simp_all; done) | (simp_all; omega) | skip
theorem RM (d : aW) (hb : d.pending.length≤9223372036854775807) : aC (ai (ev LI TT) (aj TT) ze) [(1,.ptr .own (bH .af d)),(3,.int .i64 0)] = if aI p8 (d.pending) = true then some (.exit 0,[(1,.ptr .own (bH .af d)),(3,.int .i64 (d.pending).length),(8,.bool false)]) else some (.ret,[(2,.bool false)]):=by
 refine cG (f:=ai (ev LI TT) (aj TT) ze) (d.pending) (fun i=>[(1,.ptr .own (bH .af d)),(3,.int .i64 i)]) p8 _ _ (fun i b hi hl=>?_) ?_
 ·have hw:=aM i (by first | omega | (simp at hl; omega))
  obtain ⟨_,rfl⟩:=List.getElem?_eq_some_iff.1 hi
  simp -implicitDefEqProofs [ze,Jd,hl,hw,p8]
  all_goals (repeat' split) <;> first | rfl | omega | (simp_all; done) | (simp_all; omega) | skip
 ·simp -implicitDefEqProofs [ze,Jd]
theorem vV (d : aW) (hb : d.pending.length≤9223372036854775807) : ev LI TT 165 [.agg (bH .af d)] = some (.bool ((cH d)),[.dead]):=by
 rw [aq (b:=DU) (rs:=[.t 2]) (n:=1) rfl rfl]
 unfold cH
 have u1:=RM  d hb
 try simp at u1
 simp -implicitDefEqProofs [DU,u1]
 all_goals (repeat' split) <;> first | rfl | omega | (simp_all; done) | (simp_all; omega) | skip
theorem QN (d : aW) (hb : d.pending.length≤9223372036854775807) : aC (ai (ev LI TT) (aj TT) xh) [(1,.ptr .own (bH .af d)),(5,.aA 1 [] 0 1),(6,.row .af 2 (d.pending.map eW)),(7,.int .i64 d.pending.length),(8,.int .i64 0)] = if aI p8 (d.pending) = true then some (.exit 0,[(1,.ptr .own (bH .af d)),(5,.aA 1 [] 0 1),(6,.row .af 2 (d.pending.map eW)),(7,.int .i64 d.pending.length),(8,.int .i64 (d.pending).length),(9,.bool false)]) else some (.ret,[(2,.bool false)]):=by
 refine cG (f:=ai (ev LI TT) (aj TT) xh) (d.pending) (fun i=>[(1,.ptr .own (bH .af d)),(5,.aA 1 [] 0 1),(6,.row .af 2 (d.pending.map eW)),(7,.int .i64 d.pending.length),(8,.int .i64 i)]) p8 _ _ (fun i b hi hl=>?_) ?_
 ·have hw:=aM i (by first | omega | (simp at hl; omega))
  obtain ⟨_,rfl⟩:=List.getElem?_eq_some_iff.1 hi
  simp -implicitDefEqProofs [xh,Ho,hl,hw,p8]
  all_goals (repeat' split) <;> first | rfl | omega | (simp_all; done) | (simp_all; omega) | skip
 ·simp -implicitDefEqProofs [xh,Ho]
theorem Fu (d : aW) (hb : d.pending.length≤9223372036854775807) : ev LI TT 185 [.agg (bH .af d)] = some (.bool ((cH d)),[.dead]):=by
 rw [aq (b:=BV) (rs:=[.t 2]) (n:=1) rfl rfl]
 unfold cH
 have u1:=QN  d hb
 try simp at u1
 simp -implicitDefEqProofs [BV,u1]
 all_goals (repeat' split) <;> first | rfl | omega | (simp_all; done) | (simp_all; omega) | skip
end M
namespace M
open Go
theorem RY (s : Sh) (hb : bT s≤1073741824) : aC (ai (ev LI TT) (aj TT) zv) [(1,.ptr .own (aH .af s)),(3,.int .i64 0)] = if aI dr (s.aQ) = true then some (.exit 0,[(1,.ptr .own (aH .af s)),(3,.int .i64 (s.aQ).length),(33,.bool false)]) else some (.ret,[(2,.bool false)]):=by
 refine cG (f:=ai (ev LI TT) (aj TT) zv) (s.aQ) (fun i=>[(1,.ptr .own (aH .af s)),(3,.int .i64 i)]) dr _ _ (fun i b hi hl=>?_) ?_
 ·have hw:=aM i (by have dK : bT s = bY s.aL + wL bE s.av + wL aR s.aQ:=rfl; have:=aY (w:=aR) s.aQ; omega)
  obtain ⟨_,rfl⟩:=List.getElem?_eq_some_iff.1 hi
  have dK : bT s = bY s.aL + wL bE s.av + wL aR s.aQ:=rfl
  have hm:=ET (List.getElem_mem hl)
  have u1:=FL  s.aQ[i] (by omega)
  try simp at u1
  simp -implicitDefEqProofs [zv,Jk,hl,hw,u1]
  all_goals (repeat' split) <;> first | rfl | omega | (simp_all; done) | (simp_all; omega) | skip
 ·simp -implicitDefEqProofs [zv,Jk]
theorem RZ (s : Sh) (n : Nat) (k : Kp) (hn : n≤s.av.length) (hb : s.av.length≤1073741824) : aC (ai (ev LI TT) (aj TT) zw) [(1,.ptr .own (aH .af s)),(4,.int .i64 n),(5,.ptr .own (aB .af k)),(6,.int .i64 0)] = if aI (fun y=>decide ¬ y.at_ = k.at_) (s.av.take n) = true then some (.exit 4,[(1,.ptr .own (aH .af s)),(4,.int .i64 n),(5,.ptr .own (aB .af k)),(6,.int .i64 (s.av.take n).length),(92,.bool false)]) else some (.ret,[(2,.bool false)]):=by
 refine cG (f:=ai (ev LI TT) (aj TT) zw) (s.av.take n) (fun i=>[(1,.ptr .own (aH .af s)),(4,.int .i64 n),(5,.ptr .own (aB .af k)),(6,.int .i64 i)]) (fun y=>decide ¬ y.at_ = k.at_) _ _ (fun i b hi hl=>?_) ?_
 ·have hw:=aM i (by first | omega | (simp at hl; omega))
  obtain ⟨_,rfl⟩:=List.getElem?_eq_some_iff.1 hi
  have h1 : i < n:=by simp at hl; omega
  have h2 : i < s.av.length:=by omega
  simp -implicitDefEqProofs [zw,Jl,hl,hw,h1,h2]
  all_goals (repeat' split) <;> first | rfl | omega | (simp_all; done) | (simp_all; omega) | skip
 ·have hmin : min n s.av.length = n:=by omega
  simp -implicitDefEqProofs [zw,Jl,hmin]
theorem R1 (s : Sh) (hb : bT s≤1073741824) (hs : 1≤s.seq∧s.seq≤100000) : aC (ai (ev LI TT) (aj TT) kP) [(1,.ptr .own (aH .af s)),(4,.int .i64 0)] = if aI (jR s.seq s.av) (s.av.zipIdx) = true then some (.exit 2,[(1,.ptr .own (aH .af s)),(4,.int .i64 (s.av.zipIdx).length),(47,.bool false)]) else some (.ret,[(2,.bool false)]):=by
 refine cG (f:=ai (ev LI TT) (aj TT) kP) (s.av.zipIdx) (fun i=>[(1,.ptr .own (aH .af s)),(4,.int .i64 i)]) (jR s.seq s.av) _ _ (fun i b hi hl=>?_) ?_
 ·have hw:=aM i (by have dK : bT s = bY s.aL + wL bE s.av + wL aR s.aQ:=rfl; have:=aY (w:=bE) s.av; simp at hl; omega)
  obtain ⟨_,rfl⟩:=List.getElem?_eq_some_iff.1 hi
  simp only [List.length_zipIdx] at hl
  have dK : bT s = bY s.aL + wL bE s.av + wL aR s.aQ:=rfl
  have hlen:=aY (w:=bE) s.av
  have hz : s.av.zipIdx[i]'(by simpa using hl) = (s.av[i],i):=by simp
  have hm:=vD (List.getElem_mem hl)
  have hS : IntKind.i64.wrap (s.seq - 1) = s.seq - 1:=bz (by omega) (by omega)
  rw [hz]
  have hmin : min i s.av.length = i:=by omega
  have u1:=AP  s.av[i].obj (by omega)
  try simp at u1
  have u2:=RZ  s i s.av[i] (by omega) (by omega)
  try simp at u2
  by_cases g1 : cy (s.av[i]).obj = true
  rotate_left
  ·simp -implicitDefEqProofs [kP,mR,hl,hw,u1,u2,jR,hS,hmin,g1]
  by_cases g2 : 5≤(s.av[i]).at_
  rotate_left
  ·simp -implicitDefEqProofs [kP,mR,hl,hw,u1,u2,jR,hS,hmin,g1,eq_false g2]
  by_cases g3 : (s.av[i]).at_≤19
  rotate_left
  ·simp -implicitDefEqProofs [kP,mR,hl,hw,u1,u2,jR,hS,hmin,g1,eq_true g2,eq_false g3]
  by_cases g4 : 1≤(s.av[i]).seq
  rotate_left
  ·simp -implicitDefEqProofs [kP,mR,hl,hw,u1,u2,jR,hS,hmin,g1,eq_true g2,eq_true g3,eq_false g4]
  by_cases g5 : (s.av[i]).seq≤s.seq - 1
  rotate_left
  ·simp -implicitDefEqProofs [kP,mR,hl,hw,u1,u2,jR,hS,hmin,g1,eq_true g2,eq_true g3,eq_true g4,eq_false g5]
  by_cases g6 : i = 0
  ·subst g6
   try simp at u2 hw
   simp -implicitDefEqProofs [kP,mR,hl,hw,u1,u2,jR,hS,hmin,g1,eq_true g2,eq_true g3,eq_true g4,eq_true g5]
  obtain ⟨j,rfl⟩ : ∃ j,i = j + 1:=⟨i - 1,by omega⟩
  have hj : j < s.av.length:=by omega
  have hJ : IntKind.i64.wrap (j : Int) = j:=bz (by omega) (by omega)
  have hp:=IM s.av j hj
  try simp at u2 hw hS
  have hpos : (0 : Int) < (j : Int) + 1:=by omega
  have hlc : (j : Int) + 1 < s.av.length:=by omega
  have ig : (0 : Int)≤(j : Int) + 1:=by omega
  by_cases g7 : (s.av[j]).seq < (s.av[j + 1]).seq
  rotate_left
  ·have GD : (s.av[j + 1]).seq≤(s.av[j]).seq:=by omega
   simp -implicitDefEqProofs [kP,mR,hl,hw,u1,u2,jR,hS,hmin,g1,eq_true g2,eq_true g3,eq_true g4,eq_true g5,hj,hJ,hp,hpos,hlc,ig,eq_false g7,eq_true GD]
  have GD : ¬ (s.av[j + 1]).seq≤(s.av[j]).seq:=by omega
  simp -implicitDefEqProofs [kP,mR,hl,hw,u1,u2,jR,hS,hmin,g1,eq_true g2,eq_true g3,eq_true g4,eq_true g5,hj,hJ,hp,hpos,hlc,ig,eq_true g7,eq_false GD]
  all_goals (repeat' split) <;> first | rfl | omega | (simp_all; done) | (simp_all; omega) | skip
 ·simp -implicitDefEqProofs [kP,mR]
theorem U5 (s : Sh) (hb : bT s≤1073741824) : ev LI TT 159 [.agg (aH .af s)] = some (.bool ((j0 s)),[.dead]):=by
 rw [aq (b:=mS) (rs:=[.t 2]) (n:=1) rfl rfl]
 have dK : bT s = bY s.aL + wL bE s.av + wL aR s.aQ:=rfl
 have Nw : bY s.aL = wL wS s.aL.cells + wL bR s.aL.pending:=rfl
 have hlen:=aY (w:=bR) s.aL.pending
 unfold j0
 have u1:=vV  s.aL (by omega)
 try simp at u1
 have u2:=RY  s hb
 try simp at u2
 by_cases g1 : cH s.aL = true
 rotate_left
 ·simp -implicitDefEqProofs [mS,u1,u2,g1]
 by_cases g2 : (s.aQ.length : Int)≤5
 rotate_left
 ·simp -implicitDefEqProofs [mS,u1,u2,g1,eq_false g2]
 by_cases g3 : 5≤s.next
 rotate_left
 ·simp -implicitDefEqProofs [mS,u1,u2,g1,eq_true g2,eq_false g3]
 by_cases g4 : s.next≤19
 rotate_left
 ·simp -implicitDefEqProofs [mS,u1,u2,g1,eq_true g2,eq_true g3,eq_false g4]
 by_cases g5 : 1≤s.seq
 rotate_left
 ·simp -implicitDefEqProofs [mS,u1,u2,g1,eq_true g2,eq_true g3,eq_true g4,eq_false g5]
 by_cases g6 : s.seq≤100000
 rotate_left
 ·simp -implicitDefEqProofs [mS,u1,u2,g1,eq_true g2,eq_true g3,eq_true g4,eq_true g5,eq_false g6]
 have u3:=R1 s hb ⟨by omega,by omega⟩
 rw [abA] at u3
 simp at u3
 have mg : ¬ 5 < (s.aQ.length : Int):=by omega
 simp -implicitDefEqProofs [mS,u1,u2,g1,eq_true g2,eq_true g3,eq_true g4,eq_true g5,eq_true g6,u3,mg]
 all_goals (repeat' split) <;> first | rfl | omega | (simp_all; done) | (simp_all; omega) | skip
end M
namespace M
open Go
theorem TJ (x k : Kp) : ev LI TT 345 [.agg (aB .af x),.ptr .af (aB .af k)] = some (.bool (decide (x.at_ = k.at_)),[.dead,.dead]):=by
 rw [aq (b:=B7) (rs:=[.t 3]) (n:=2) rfl rfl]
 simp -implicitDefEqProofs [B7]
 all_goals (repeat' split) <;> first | rfl | omega | (simp_all; done) | (simp_all; omega) | skip
theorem Sy (l : List Kp) (k : Kp) (gf : Nat) (p : Kp→Bool) (ho : aj TT gf = true) (hf : ∀ x∈l,ev LI TT gf [.agg (aB .af x),.ptr .af (aB .af k)] = some (.bool (p x),[.dead,.dead])) (hb : l.length≤9223372036854775807) : aC (ai (ev LI TT) (aj TT) Aq) [(0,.row .af 9 (l.map (aB .af))),(1,.fn gf [.ptr .af (aB .af k)]),(7,.int .i64 l.length),(8,.int .i64 0)] = (cC p 0 (l)).elim (some (.exit 0,[(0,.row .af 9 (l.map (aB .af))),(1,.fn gf [.ptr .af (aB .af k)]),(7,.int .i64 l.length),(8,.int .i64 (l).length),(9,.bool false)])) fun x=>some (.ret,(fun (i : Nat) b=>[(4,.int .i64 i)]) x.1 x.2):=by
 refine pT (f:=ai (ev LI TT) (aj TT) Aq) (l) (fun i=>[(0,.row .af 9 (l.map (aB .af))),(1,.fn gf [.ptr .af (aB .af k)]),(7,.int .i64 l.length),(8,.int .i64 i)]) p (fun (i : Nat) b=>[(4,.int .i64 i)]) _ (fun i b hi hl=>?_) ?_
 ·have hw:=aM i (by first | omega | (simp at hl; omega))
  obtain ⟨_,rfl⟩:=List.getElem?_eq_some_iff.1 hi
  have u1:=hf l[i] (List.getElem_mem hl)
  try simp at u1
  simp -implicitDefEqProofs [Aq,J8,hl,hw,u1,ho,tV]
  all_goals (repeat' split) <;> first | rfl | omega | (simp_all; done) | (simp_all; omega) | skip
 ·simp -implicitDefEqProofs [Aq,J8]
theorem Vm (l : List Kp) (k : Kp) (gf : Nat) (p : Kp→Bool) (ho : aj TT gf = true) (hf : ∀ x∈l,ev LI TT gf [.agg (aB .af x),.ptr .af (aB .af k)] = some (.bool (p x),[.dead,.dead])) (hb : l.length≤9223372036854775807) : ev LI TT 285 [.row .af 9 (l.map (aB .af)),.fn gf [.ptr .af (aB .af k)]] = some (.int .i64 ((cC p 0 l).elim (-1) fun x=>(x.1 : Int)),[.dead,.dead]):=by
 rw [aq (b:=Ar) (rs:=[.t 4]) (n:=2) rfl rfl]
 have u1:=Sy  l k gf p ho hf hb
 try simp at u1
 cases g : cC p 0 l with
 | none=>rw [g] at u1; simp at u1; simp -implicitDefEqProofs [Ar,u1]
 | some x =>
 rw [g] at u1
 simp at u1
 simp -implicitDefEqProofs [Ar,u1]
 all_goals (repeat' split) <;> first | rfl | omega | (simp_all; done) | (simp_all; omega) | skip
theorem FW (l : List Kp) (k : Kp) (gf : Nat) (p : Kp→Bool) (ho : aj TT gf = true) (hf : ∀ x∈l,ev LI TT gf [.agg (aB .af x),.ptr .af (aB .af k)] = some (.bool (p x),[.dead,.dead])) (hb : l.length≤9223372036854775807) : ev LI TT 181 [.row .af 9 (l.map (aB .af)),.fn gf [.ptr .af (aB .af k)]] = some (.bool (!aI (fun x=>!p x) l),[.dead,.dead]):=by
 rw [aq (b:=Ak) (rs:=[.t 4]) (n:=2) rfl rfl]
 have u1:=Vm  l k gf p ho hf hb
 try simp at u1
 rw [← Gs p l 0]
 cases g : cC p 0 l with
 | none=>rw [g] at u1; simp at u1; simp -implicitDefEqProofs [Ak,u1]
 | some x =>
 rw [g] at u1
 simp at u1
 simp -implicitDefEqProofs [Ak,u1]
 all_goals (repeat' split) <;> first | rfl | omega | (simp_all; done) | (simp_all; omega) | skip
theorem Rb (s : Sh) (hb : bT s≤1073741824) : ∃ sl,aC (ai (ev LI TT) (aj TT) lu) [(0,.ptr .af (aH .af s)),(3,.int .i64 0),(7,.ptr .af (aH .af s)),(8,.ptr .af (aH .af s)),(9,.ptr .af ((aH .af s).drop 2)),(10,.row .af 9 (s.av.map (aB .af))),(11,.int .i64 s.av.length),(12,.int .i64 0)] = if rQ s.seq s.av = true then some (.exit 0,sl) else some (.ret,[(2,.bool false)]):=by
 have dK : bT s = bY s.aL + wL bE s.av + wL aR s.aQ:=rfl
 have hlen:=aY (w:=bE) s.av
 refine ⟨_,cG (f:=ai (ev LI TT) (aj TT) lu) s.av.zipIdx (fun i=>[(0,.ptr .af (aH .af s)),(3,.int .i64 (lP s.av i)),(7,.ptr .af (aH .af s)),(8,.ptr .af (aH .af s)),(9,.ptr .af ((aH .af s).drop 2)),(10,.row .af 9 (s.av.map (aB .af))),(11,.int .i64 s.av.length),(12,.int .i64 i)]) (pN s.seq s.av) [(2,.bool false)] [(0,.ptr .af (aH .af s)),(3,.int .i64 (lP s.av s.av.length)),(7,.ptr .af (aH .af s)),(8,.ptr .af (aH .af s)),(9,.ptr .af ((aH .af s).drop 2)),(10,.row .af 9 (s.av.map (aB .af))),(11,.int .i64 s.av.length),(12,.int .i64 s.av.length),(13,.bool false)] (fun i b hi hl=>?_) ?_⟩
 ·simp only [List.length_zipIdx] at hl
  have hw:=aM i (by omega)
  obtain ⟨_,rfl⟩:=List.getElem?_eq_some_iff.1 hi
  have hz : s.av.zipIdx[i]'(by simpa using hl) = (s.av[i],i):=by simp
  have hm:=vD (List.getElem_mem hl)
  have hp:=IM s.av i hl
  rw [hz]
  have hs : gy [] = true:=rfl
  have u1:=AN s.av[i].obj (by omega)
  have u2:=FW (s.av.take i) s.av[i] 345 (fun x=>decide (x.at_ = (s.av[i]).at_)) rfl (fun x _=>TJ x s.av[i]) (by simp; omega)
  have hle : (i : Int)≤s.av.length:=by omega
  have hle2 : i≤s.av.length:=by omega
  simp at u1 u2
  unfold pN
  by_cases g1 : cy (s.av[i]).obj = true
  rotate_left
  ·simp -implicitDefEqProofs [lu,nM,hl,hw,hle,hle2,iQ,fH,eM,u1,u2,g1]
  by_cases g2 : 5≤(s.av[i]).at_
  rotate_left
  ·simp -implicitDefEqProofs [lu,nM,hl,hw,hle,hle2,iQ,fH,eM,u1,u2,g1,eq_false g2]
  by_cases g3 : (s.av[i]).at_≤19
  rotate_left
  ·simp -implicitDefEqProofs [lu,nM,hl,hw,hle,hle2,iQ,fH,eM,u1,u2,g1,eq_true g2,eq_false g3]
  by_cases g4 : aI (fun y : Kp=>!decide (y.at_ = (s.av[i]).at_)) (s.av.take i) = true
  rotate_left
  ·simp -implicitDefEqProofs [lu,nM,hl,hw,hle,hle2,iQ,fH,eM,u1,u2,g1,eq_true g2,eq_true g3,g4]
  by_cases g5 : lP s.av i < (s.av[i]).seq
  rotate_left
  ·have oY : (s.av[i]).seq≤lP s.av i:=by omega
   simp -implicitDefEqProofs [lu,nM,hl,hw,hle,hle2,iQ,fH,eM,u1,u2,g1,eq_true g2,eq_true g3,g4,eq_false g5,eq_true oY]
  have oY : ¬ (s.av[i]).seq≤lP s.av i:=by omega
  by_cases g6 : (s.av[i]).seq < s.seq
  rotate_left
  ·have GC : s.seq≤(s.av[i]).seq:=by omega
   simp -implicitDefEqProofs [lu,nM,hl,hw,hle,hle2,iQ,fH,eM,u1,u2,g1,eq_true g2,eq_true g3,g4,eq_true g5,eq_false oY,eq_false g6,eq_true GC]
  have GC : ¬ s.seq≤(s.av[i]).seq:=by omega
  simp -implicitDefEqProofs [lu,nM,hl,hw,hle,hle2,iQ,fH,eM,u1,u2,g1,eq_true g2,eq_true g3,g4,eq_true g5,eq_false oY,eq_true g6,eq_false GC,hp]
 ·simp -implicitDefEqProofs [lu,nM]
theorem TI (s : Sh) (hb : bT s≤1073741824) : ev LI TT 239 [.ptr .af (aH .af s)] = some (.bool (rQ s.seq s.av),[.dead]):=by
 rw [aq (b:=B8) (rs:=[.t 2]) (n:=1) rfl rfl]
 obtain ⟨sl,u1⟩:=Rb s hb
 simp at u1
 simp -implicitDefEqProofs [B8,u1]
 all_goals (repeat' split) <;> first | rfl | omega | (simp_all; done) | (simp_all; omega) | skip
theorem QY (s : Sh) (hb : bT s≤1073741824) : aC (ai (ev LI TT) (aj TT) xA) [(1,.ptr .own (aH .af s)),(5,.aA 1 [] 0 3),(6,.row .af 4 (s.aQ.map aS)),(7,.int .i64 s.aQ.length),(8,.int .i64 0)] = if aI dr (s.aQ) = true then some (.exit 0,[(1,.ptr .own (aH .af s)),(5,.aA 1 [] 0 3),(6,.row .af 4 (s.aQ.map aS)),(7,.int .i64 s.aQ.length),(8,.int .i64 (s.aQ).length),(9,.bool false)]) else some (.ret,[(2,.bool false)]):=by
 refine cG (f:=ai (ev LI TT) (aj TT) xA) (s.aQ) (fun i=>[(1,.ptr .own (aH .af s)),(5,.aA 1 [] 0 3),(6,.row .af 4 (s.aQ.map aS)),(7,.int .i64 s.aQ.length),(8,.int .i64 i)]) dr _ _ (fun i b hi hl=>?_) ?_
 ·have hw:=aM i (by have dK : bT s = bY s.aL + wL bE s.av + wL aR s.aQ:=rfl; have:=aY (w:=aR) s.aQ; omega)
  obtain ⟨_,rfl⟩:=List.getElem?_eq_some_iff.1 hi
  have dK : bT s = bY s.aL + wL bE s.av + wL aR s.aQ:=rfl
  have hm:=ET (List.getElem_mem hl)
  have u1:=Ft  s.aQ[i] (by omega)
  try simp at u1
  simp -implicitDefEqProofs [xA,Hv,hl,hw,u1]
  all_goals (repeat' split) <;> first | rfl | omega | (simp_all; done) | (simp_all; omega) | skip
 ·simp -implicitDefEqProofs [xA,Hv]
theorem TD (s : Sh) (hb : bT s≤1073741824) : ev LI TT 141 [.agg (aH .af s)] = some (.bool ((j0 s)),[.dead]):=by
 rw [aq (b:=lq) (rs:=[.t 2]) (n:=1) rfl rfl]
 have dK : bT s = bY s.aL + wL bE s.av + wL aR s.aQ:=rfl
 have Nw : bY s.aL = wL wS s.aL.cells + wL bR s.aL.pending:=rfl
 have hlen:=aY (w:=bR) s.aL.pending
 unfold j0
 have u1:=Fu  s.aL (by omega)
 try simp at u1
 have u2:=QY  s hb
 try simp at u2
 have u3:=TI  s hb
 try simp at u3
 by_cases g1 : aI dr s.aQ = true
 rotate_left
 ·simp -implicitDefEqProofs [lq,u1,u2,u3,g1]
 by_cases g2 : (s.aQ.length : Int)≤5
 rotate_left
 ·simp -implicitDefEqProofs [lq,u1,u2,u3,g1,eq_false g2]
 by_cases g3 : 5≤s.next
 rotate_left
 ·simp -implicitDefEqProofs [lq,u1,u2,u3,g1,eq_true g2,eq_false g3]
 by_cases g4 : s.next≤19
 rotate_left
 ·simp -implicitDefEqProofs [lq,u1,u2,u3,g1,eq_true g2,eq_true g3,eq_false g4]
 by_cases g5 : 1≤s.seq
 rotate_left
 ·simp -implicitDefEqProofs [lq,u1,u2,u3,g1,eq_true g2,eq_true g3,eq_true g4,eq_false g5]
 by_cases g6 : s.seq≤100000
 rotate_left
 ·simp -implicitDefEqProofs [lq,u1,u2,u3,g1,eq_true g2,eq_true g3,eq_true g4,eq_true g5,eq_false g6]
 by_cases g7 : cH s.aL = true
 rotate_left
 ·simp -implicitDefEqProofs [lq,u1,u2,u3,g1,eq_true g2,eq_true g3,eq_true g4,eq_true g5,eq_true g6,g7]
 simp -implicitDefEqProofs [lq,u1,u2,u3,g1,eq_true g2,eq_true g3,eq_true g4,eq_true g5,eq_true g6,g7]
 all_goals (repeat' split) <;> first | rfl | omega | (simp_all; done) | (simp_all; omega) | skip
end M
set_option maxHeartbeats 4000000
namespace M
open Go
theorem Gn (l : List aF) : (gZ l).length≤4 * wL aJ l:=by
 unfold gZ
 induction l with
 | nil=>simp [wL]
 | cons f l ih =>
  simp only [List.flatMap_cons,List.length_append,wL,List.length_cons,List.map_cons,List.sum_cons,oU,aJ,List.length_nil] at *
  omega
theorem abL : (⟨#[58,32]⟩ : ByteArray) = ⟨colon.toArray⟩:=rfl
theorem Iq : (⟨#[13,10]⟩ : ByteArray) = ⟨crlf.toArray⟩:=rfl
theorem abO : (⟨#[13,10,13,10]⟩ : ByteArray) = ⟨aX.toArray⟩:=rfl
theorem N7 : (⟨#[72,84,84,80,47,49,46,49,32]⟩ : ByteArray) = ⟨(mE ++ [32]).toArray⟩:=rfl
theorem abM : (⟨#[32,46]⟩ : ByteArray) = ⟨([32,46] : ag).toArray⟩:=rfl
theorem abN : (⟨#[32,46,13,10]⟩ : ByteArray) = ⟨([32,46] ++ crlf : ag).toArray⟩:=rfl
theorem N4 : (⟨#[99,111,110,116,101,110,116,45,108,101,110,103,116,104,58,32]⟩ : ByteArray) = ⟨(cT ++ colon).toArray⟩:=rfl
theorem N5 : (⟨#[111,98,106,32]⟩ : ByteArray) = ⟨(lM ++ [32]).toArray⟩:=rfl
theorem N6 : (⟨#[32]⟩ : ByteArray) = ⟨([32] : ag).toArray⟩:=rfl
theorem Dh : (⟨#[10]⟩ : ByteArray) = ⟨([10] : ag).toArray⟩:=rfl
theorem yy : colon.length = 2:=rfl
theorem yz : crlf.length = 2:=rfl
theorem N8 : aX.length = 4:=rfl
theorem Ir : mE.length = 8:=rfl
theorem Di : cT.length = 14:=rfl
theorem Dj : lM.length = 3:=rfl
theorem RO (fs : List aF) (hb : wL aJ fs≤1073741824) (g : ag) (hinv : g.length≤4 * (wL aJ (fs.take 0))) : aC (ai (ev LI TT) (aj TT) zf) [(0,.row .af 2 (fs.map aG)),(3,.str ⟨(g).toArray⟩),(4,.int .i64 0)] = some (.exit 0,[(0,.row .af 2 (fs.map aG)),(3,.str ⟨((foldI (fun _ g f=>g ++ oU f) 0 (fs) g)).toArray⟩),(4,.int .i64 (fs).length),(8,.bool false)]):=by
 refine gw (f:=ai (ev LI TT) (aj TT) zf) (fs) (fun i (g : ag)=>[(0,.row .af 2 (fs.map aG)),(3,.str ⟨(g).toArray⟩),(4,.int .i64 i)]) (fun _ g f=>g ++ oU f) (fun g=>[(0,.row .af 2 (fs.map aG)),(3,.str ⟨(g).toArray⟩),(4,.int .i64 (fs).length),(8,.bool false)]) (fun i (g : ag)=>g.length≤4 * (wL aJ (fs.take i))) g hinv (fun i b g hi hl hinv=>?_) (fun i b g hi hinv=>?_) (fun g hinv=>?_)
 ·have hw:=aM i (by have:=aY (w:=aJ) fs; omega)
  obtain ⟨_,rfl⟩:=List.getElem?_eq_some_iff.1 hi
  have hm:=EV (List.getElem_mem hl)
  have ht:=J2 aJ fs i
  have q1 : g.length + (fs[i]).name.length≤9223372036854775807:=by omega
  have q2 : g.length + ((fs[i]).name.length + 2)≤9223372036854775807:=by omega
  have q3 : g.length + ((fs[i]).name.length + (2 + (fs[i]).value.length))≤9223372036854775807:=by omega
  simp -implicitDefEqProofs [zf,Je,hl,hw,abL,Iq,gN,yy,yz,oU]
  exact ⟨by omega,by omega,by omega,by omega,by simp [colon,crlf]⟩
 ·obtain ⟨hl,rfl⟩:=List.getElem?_eq_some_iff.1 hi
  rw [List.take_succ_eq_append_getElem hl]
  simp only [wL,List.length_append,List.map_append,List.sum_append,List.length_cons,List.length_nil,List.map_cons,List.map_nil,List.sum_cons,List.sum_nil,oU,aJ] at *
  omega
 ·simp -implicitDefEqProofs [zf,Je]
theorem Bm {β : Type} (f : β→ag) : ∀ (l : List β) (i : Nat) (g : ag),foldI (fun _ g b=>g ++ f b) i l g = g ++ l.flatMap f
 | [],_,g=>by simp [foldI]
 | b :: l,i,g=>by rw [foldI,Bm f l]; simp
theorem UW (fs : List aF) (hb : wL aJ fs≤1073741824) : ev LI TT 362 [.row .af 2 (fs.map aG)] = some (.str ⟨(gZ fs).toArray⟩,[.dead]):=by
 rw [aq (b:=DW) (rs:=[.t 2]) (n:=1) rfl rfl]
 have u1:=RO  fs hb [] (by simp)
 try simp at u1
 rw [Bm,List.nil_append,show fs.flatMap (fun f=>oU f) = gZ fs from rfl] at u1
 simp -implicitDefEqProofs [DW,u1]
 all_goals (repeat' split) <;> first | rfl | omega | (simp_all; done) | (simp_all; omega) | skip
structure SA (r : bP) : Prop where
 s0 : 100≤r.status
 s1 : r.status≤599
 f : iC r.fields = true
 b : r.body.length≤120
 nt : dM r.status = aT r.status.toNat
 nb : dM (r.body.length : Int) = aT r.body.length
 ls : (aT r.status.toNat).length≤7
 lb : (aT r.body.length).length≤7
 JX : eV r = mE ++ 32 :: (aT r.status.toNat ++ 32 :: 46 :: (crlf ++ (gZ r.fields ++ (cT ++ (colon ++ (aT r.body.length ++ (aX ++ r.body)))))))
theorem DL {r : bP} (h : eT r = true) : SA r:=by
 obtain ⟨h1,h2,h3⟩:=IZ h
 refine ⟨h1.1,h1.2,h2,h3,?_,?_,qO _ (by omega),qO _ (by omega),?_⟩
 ·unfold dM; rw [if_pos (by omega)]
 ·exact DA _ (by omega)
 ·unfold eV
  rw [if_pos h,Pd]
  simp [jB,je,colon]
theorem Le (r : bP) (hb : bp r≤1073741824) : ev LI TT 276 [.agg (gG .af r)] = some (.str ⟨(eV r).toArray⟩,[.dead]):=by
 rw [aq (b:=zu) (rs:=[.t 2]) (n:=1) rfl rfl]
 have hw : bp r = wL aJ r.fields + r.body.length:=rfl
 have hfl:=Gn r.fields
 have hft:=UW r.fields (by omega)
 have u1:=Ld  r hb
 try simp at u1
 have u2:=sW  r.status
 try simp at u2
 have u3:=sW  (r.body.length : Int)
 try simp at u3
 by_cases hok : eT r = true
 rotate_left
 ·have e : eV r = []:=(I1 r).2 hok
  rw [show eT r = false by simpa using hok] at u1
  simp -implicitDefEqProofs [zu,u1,e]
 rw [hok] at u1
 have A:=DL hok
 rw [A.nt] at u2
 rw [A.nb] at u3
 have a1:=A.ls
 have a2:=A.lb
 have a3:=A.b
 try simp at hft
 rw [A.JX]
 generalize gZ r.fields = T at hft hfl
 generalize aT r.status.toNat = D at u2 a1
 generalize aT r.body.length = E at u3 a2
 simp -implicitDefEqProofs [zu,u1,u2,u3,hft,N7,abN,N4,abO,gN,Ir,yz,Di,yy,N8]
 all_goals (try omega)
theorem TP (b : ag) (hb : b.length≤1000000) : ev LI TT 443 [.str ⟨b.toArray⟩] = some (.str ⟨(cT ++ (colon ++ (aT b.length ++ crlf))).toArray⟩,[.dead]):=by
 rw [aq (b:=Ct) (rs:=[.t 2]) (n:=1) rfl rfl]
 have l7:=qO b.length hb
 have u1:=qE  b.length (by omega)
 try simp at u1
 simp -implicitDefEqProofs [Ct,u1,N4,Iq,gN,Di,yy,yz]
 all_goals (try omega)
theorem KU (r : bP) (hb : bp r≤1073741824) : ev LI TT 419 [.agg (gG .af r)] = some (.str ⟨(eV r).toArray⟩,[.dead]):=by
 rw [aq (b:=xy) (rs:=[.t 2]) (n:=1) rfl rfl]
 have hw : bp r = wL aJ r.fields + r.body.length:=rfl
 have hfl:=Gn r.fields
 have pg:=aY (w:=aJ) r.fields
 have hft:=Tt r.fields (by omega) (by omega)
 have u1:=KT  r hb
 try simp at u1
 by_cases hok : eT r = true
 rotate_left
 ·have e : eV r = []:=(I1 r).2 hok
  rw [show eT r = false by simpa using hok] at u1
  simp -implicitDefEqProofs [xy,u1,e]
 rw [hok] at u1
 have A:=DL hok
 have a0:=A.s0
 have a0':=A.s1
 have a1:=A.ls
 have a2:=A.lb
 have a3:=A.b
 have hst : r.status = ((r.status.toNat : Nat) : Int):=by omega
 have u2:=qE r.status.toNat (by omega)
 rw [← hst] at u2
 have u3:=TP r.body (by omega)
 try simp at hft
 try simp at u2
 try simp at u3
 rw [A.JX]
 generalize gZ r.fields = T at hft hfl
 generalize aT r.status.toNat = D at u2 a1
 generalize aT r.body.length = E at u3 a2
 simp -implicitDefEqProofs [xy,u1,hft,u2,u3,N7,abM,Iq,gN,Ir,yz,Di,yy]
 refine ⟨by omega,by omega,by omega,by omega,by omega,by omega,by omega,?_⟩
 simp [crlf,aX]
theorem Qb (l : List ag) : (gR l).length≤2 * wL wS l:=by
 unfold gR
 induction l with
 | nil=>simp [wL]
 | cons v l ih =>
  simp only [List.flatMap_cons,List.length_append,wL,List.length_cons,List.map_cons,List.sum_cons,wS,List.length_nil] at *
  omega
theorem Ph (r : bP) : (eV r).length≤4 * bp r + 60:=by
 by_cases h : eT r = true
 ·have A:=DL h
  have hfl:=Gn r.fields
  have a1:=A.ls
  have a2:=A.lb
  rw [A.JX]
  have hw : bp r = wL aJ r.fields + r.body.length:=rfl
  simp [Ir,yz,Di,yy,N8]
  omega
 ·rw [(I1 r).2 h]
  simp
theorem RX (o : Ob) (hb : aV o≤1073741824) (g : ag) (hinv : g.length≤9223372036 + 2 * (wL wS (o.values.take 0))) : aC (ai (ev LI TT) (aj TT) zo) [(1,.ptr .own (bn .af o)),(3,.str ⟨(g).toArray⟩),(4,.int .i64 0)] = some (.exit 0,[(1,.ptr .own (bn .af o)),(3,.str ⟨((foldI (fun _ g v=>g ++ (v ++ [10])) 0 (o.values) g)).toArray⟩),(4,.int .i64 (o.values).length),(27,.bool false)]):=by
 refine gw (f:=ai (ev LI TT) (aj TT) zo) (o.values) (fun i (g : ag)=>[(1,.ptr .own (bn .af o)),(3,.str ⟨(g).toArray⟩),(4,.int .i64 i)]) (fun _ g v=>g ++ (v ++ [10])) (fun g=>[(1,.ptr .own (bn .af o)),(3,.str ⟨(g).toArray⟩),(4,.int .i64 (o.values).length),(27,.bool false)]) (fun i (g : ag)=>g.length≤9223372036 + 2 * (wL wS (o.values.take i))) g hinv (fun i b g hi hl hinv=>?_) (fun i b g hi hinv=>?_) (fun g hinv=>?_)
 ·have hw:=aM i (by have hw : aV o = o.path.length + wL wS o.names + wL wS o.values + bp o.resp:=rfl; have:=aY (w:=wS) o.values; omega)
  obtain ⟨_,rfl⟩:=List.getElem?_eq_some_iff.1 hi
  have hw0 : aV o = o.path.length + wL wS o.names + wL wS o.values + bp o.resp:=rfl
  have hm:=vE (List.getElem_mem hl)
  have ht:=J2 wS o.values i
  simp -implicitDefEqProofs [zo,Jj,hl,hw,Dh,gN]
  all_goals (try omega)
 ·obtain ⟨hl,rfl⟩:=List.getElem?_eq_some_iff.1 hi
  rw [List.take_succ_eq_append_getElem hl]
  simp only [wL,List.length_append,List.map_append,List.sum_append,List.length_cons,List.length_nil,List.map_cons,List.map_nil,List.sum_cons,List.sum_nil,wS] at *
  omega
 ·simp -implicitDefEqProofs [zo,Jj]
theorem FN (o : Ob) (hb : aV o≤1073741824) : ev LI TT 178 [.agg (bn .af o)] = some (.str ⟨(dS o).toArray⟩,[.dead]):=by
 rw [aq (b:=zq) (rs:=[.t 2]) (n:=1) rfl rfl]
 have hw : aV o = o.path.length + wL wS o.names + wL wS o.values + bp o.resp:=rfl
 have hrl:=Ph o.resp
 have hvl:=Qb o.values
 have hft:=Le o.resp (by omega)
 have u1:=AP  o (by omega)
 try simp at u1
 have u2:=sW  o.t
 try simp at u2
 have u3:=sW  (o.values.length : Int)
 try simp at u3
 by_cases hok : cy o = true
 rotate_left
 ·have e : dS o = []:=(OB o).2 hok
  rw [show cy o = false by simpa using hok] at u1
  simp -implicitDefEqProofs [zq,u1,e]
 rw [hok] at u1
 have A:=yP hok
 have a1:=A.len
 have a2:=A.n4
 have a3:=Dz o.t
 have a4:=qO o.values.length (by omega)
 rw [DA o.values.length (by omega)] at u3
 have et : dS o = lM ++ 32 :: (o.path ++ 32 :: (dM o.t ++ 32 :: (aT o.values.length ++ 10 :: (gR o.values ++ eV o.resp)))):=by
  unfold dS kG p7 eV
  rw [if_pos hok,if_pos A.resp]
  simp
 have hlp:=RX o hb (lM ++ 32 :: (o.path ++ 32 :: (dM o.t ++ 32 :: (aT o.values.length ++ [10])))) (by simp [Dj]; omega)
 rw [Bm,show o.values.flatMap (fun v=>v ++ [10]) = gR o.values from rfl] at hlp
 try simp at hlp
 try simp at hft
 rw [et]
 generalize eV o.resp = R at hft hrl
 generalize aT o.values.length = E at u3 a4 hlp
 generalize gR o.values = V at hvl hlp
 simp -implicitDefEqProofs [zq,u1,u2,u3,hft,hlp,N5,N6,Dh,gN,Dj]
 all_goals (try omega)
theorem QX (o : Ob) (hb : aV o≤1073741824) (g : ag) (hinv : g.length≤9223372036 + 2 * (wL wS (o.values.take 0))) : aC (ai (ev LI TT) (aj TT) xw) [(1,.ptr .own (bn .af o)),(3,.str ⟨(g).toArray⟩),(24,.aA 1 [] 0 2),(25,.row .af 1 (o.values.map eS)),(26,.int .i64 o.values.length),(27,.int .i64 0)] = some (.exit 0,[(1,.ptr .own (bn .af o)),(3,.str ⟨((foldI (fun _ g v=>g ++ (v ++ [10])) 0 (o.values) g)).toArray⟩),(24,.aA 1 [] 0 2),(25,.row .af 1 (o.values.map eS)),(26,.int .i64 o.values.length),(27,.int .i64 (o.values).length),(28,.bool false)]):=by
 refine gw (f:=ai (ev LI TT) (aj TT) xw) (o.values) (fun i (g : ag)=>[(1,.ptr .own (bn .af o)),(3,.str ⟨(g).toArray⟩),(24,.aA 1 [] 0 2),(25,.row .af 1 (o.values.map eS)),(26,.int .i64 o.values.length),(27,.int .i64 i)]) (fun _ g v=>g ++ (v ++ [10])) (fun g=>[(1,.ptr .own (bn .af o)),(3,.str ⟨(g).toArray⟩),(24,.aA 1 [] 0 2),(25,.row .af 1 (o.values.map eS)),(26,.int .i64 o.values.length),(27,.int .i64 (o.values).length),(28,.bool false)]) (fun i (g : ag)=>g.length≤9223372036 + 2 * (wL wS (o.values.take i))) g hinv (fun i b g hi hl hinv=>?_) (fun i b g hi hinv=>?_) (fun g hinv=>?_)
 ·have hw:=aM i (by have hw : aV o = o.path.length + wL wS o.names + wL wS o.values + bp o.resp:=rfl; have:=aY (w:=wS) o.values; omega)
  obtain ⟨_,rfl⟩:=List.getElem?_eq_some_iff.1 hi
  have hw0 : aV o = o.path.length + wL wS o.names + wL wS o.values + bp o.resp:=rfl
  have hm:=vE (List.getElem_mem hl)
  have ht:=J2 wS o.values i
  simp -implicitDefEqProofs [xw,Hu,hl,hw,Dh,gN]
  all_goals (try omega)
 ·obtain ⟨hl,rfl⟩:=List.getElem?_eq_some_iff.1 hi
  rw [List.take_succ_eq_append_getElem hl]
  simp only [wL,List.length_append,List.map_append,List.sum_append,List.length_cons,List.length_nil,List.map_cons,List.map_nil,List.sum_cons,List.sum_nil,wS] at *
  omega
 ·simp -implicitDefEqProofs [xw,Hu]
theorem TA (o : Ob) (hb : aV o≤1073741824) : ev LI TT 368 [.agg (bn .af o)] = some (.str ⟨(dS o).toArray⟩,[.dead]):=by
 rw [aq (b:=xx) (rs:=[.t 2]) (n:=1) rfl rfl]
 have hw : aV o = o.path.length + wL wS o.names + wL wS o.values + bp o.resp:=rfl
 have hrl:=Ph o.resp
 have hvl:=Qb o.values
 have hvn:=aY (w:=wS) o.values
 have hft:=KU o.resp (by omega)
 have u1:=AN  o (by omega)
 try simp at u1
 have u2:=KQ  o.t
 try simp at u2
 have u3:=qE  o.values.length (by omega)
 try simp at u3
 by_cases hok : cy o = true
 rotate_left
 ·have e : dS o = []:=(OB o).2 hok
  rw [show cy o = false by simpa using hok] at u1
  simp -implicitDefEqProofs [xx,u1,e]
 rw [hok] at u1
 have A:=yP hok
 have a1:=A.len
 have a2:=A.n4
 have a3:=Dz o.t
 have a4:=qO o.values.length (by omega)
 have et : dS o = lM ++ 32 :: (o.path ++ 32 :: (dM o.t ++ 32 :: (aT o.values.length ++ 10 :: (gR o.values ++ eV o.resp)))):=by
  unfold dS kG p7 eV
  rw [if_pos hok,if_pos A.resp]
  simp
 have hlp:=QX o hb (lM ++ 32 :: (o.path ++ 32 :: (dM o.t ++ 32 :: (aT o.values.length ++ [10])))) (by simp [Dj]; omega)
 rw [Bm,show o.values.flatMap (fun v=>v ++ [10]) = gR o.values from rfl] at hlp
 try simp at hlp
 try simp at hft
 rw [et]
 generalize eV o.resp = R at hft hrl
 generalize aT o.values.length = E at u3 a4 hlp
 generalize gR o.values = V at hvl hlp
 simp -implicitDefEqProofs [xx,u1,u2,u3,hft,hlp,N5,N6,Dh,gN,Dj]
 all_goals (try omega)
end M
set_option maxHeartbeats 4000000
namespace M
open Go
theorem MS (fs : List aF) (n v : ag) : (decide (dA fs n = some v)) = ((dA fs n).isSome && decide ((dA fs n).getD [] = v)):=by
 cases dA fs n <;> simp
theorem adA (p s : ag) : p.isPrefixOf s = (decide (p.length≤s.length) && decide (s.take p.length = p)):=by
 have:=Lib.hasPrefix_of_take s p
 unfold Lib.hasPrefix at this
 rw [← this]
 congr 1
 rw [Bool.eq_iff_iff]
 simp
theorem UY (b : Bn) (o : Ob) (h1 : aR b≤1073741824) (h2 : aV o≤1073741824) : ev LI TT 275 [.agg (aS b),.agg (bn .af o)] = some (.bool (kB b o),[.dead,.dead]):=by
 rw [aq (b:=lS) (rs:=[.t 4]) (n:=2) rfl rfl]
 have hw : aR b = b.a.length + b.b.length:=rfl
 have eE : aV o = o.path.length + wL wS o.names + wL wS o.values + bp o.resp:=rfl
 have q7 : bp o.resp = wL aJ o.resp.fields + o.resp.body.length:=rfl
 have l1:=aY (w:=aJ) o.resp.fields
 unfold kB
 rw [MS,adA]
 have u1:=FL  b h1
 try simp at u1
 have u2:=AP  o (by omega)
 try simp at u2
 have u3:=FM  o.resp.fields b.a (by omega)
 try simp at u3
 generalize dr b = b1 at u1
 cases b1
 ·simp -implicitDefEqProofs [lS,u1]
 generalize cy o = b2 at u2
 cases b2
 ·simp -implicitDefEqProofs [lS,u1,u2]
 by_cases g1 : o.t≤b.t
 rotate_left
 ·have cO : b.t < o.t:=by omega
  simp -implicitDefEqProofs [lS,u1,u2,g1,cO]
 have cO : ¬ b.t < o.t:=by omega
 by_cases g2 : b.kind = 1
 ·rw [g2] at u1
  simp -implicitDefEqProofs [lS,u1,u2,g1,cO,g2]
 by_cases g3 : b.kind = 2
 ·rw [g3] at u1
  by_cases g4 : b.a.length≤o.path.length
  ·have kr : (b.a.length : Int)≤o.path.length:=by omega
   by_cases g5 : o.path.take b.a.length = b.a
   ·simp -implicitDefEqProofs [lS,u1,u2,g1,cO,g2,g3,g4,kr,Lib.extract_mk,eq_true g5]
   ·simp -implicitDefEqProofs [lS,u1,u2,g1,cO,g2,g3,g4,kr,Lib.extract_mk,eq_false g5]
  ·have kr : ¬ (b.a.length : Int)≤o.path.length:=by omega
   simp -implicitDefEqProofs [lS,u1,u2,g1,cO,g2,g3,g4,kr]
 generalize (dA o.resp.fields b.a).isSome = b3 at u3
 cases b3
 all_goals
 simp -implicitDefEqProofs [lS,u1,u2,u3,g1,cO,g2,g3]
 all_goals (repeat' split) <;> first | rfl | omega | (simp_all; done) | (simp_all; omega) | skip
theorem Tv (b : Bn) (o : Ob) (h1 : aR b≤1073741824) (h2 : aV o≤1073741824) : ev LI TT 300 [.agg (aS b),.agg (bn .af o)] = some (.bool (kB b o),[.dead,.dead]):=by
 rw [aq (b:=nJ) (rs:=[.t 4]) (n:=2) rfl rfl]
 have hw : aR b = b.a.length + b.b.length:=rfl
 have eE : aV o = o.path.length + wL wS o.names + wL wS o.values + bp o.resp:=rfl
 have q7 : bp o.resp = wL aJ o.resp.fields + o.resp.body.length:=rfl
 have l1:=aY (w:=aJ) o.resp.fields
 unfold kB
 rw [MS,show b.a.isPrefixOf o.path = Lib.hasPrefix o.path b.a from rfl]
 have u1:=Ft  b h1
 try simp at u1
 have u2:=AN  o (by omega)
 try simp at u2
 have u3:=Fv  o.resp.fields b.a (by omega)
 try simp at u3
 have u4:=Vr  o.path b.a
 try simp at u4
 by_cases g1 : o.t≤b.t
 rotate_left
 ·have cO : b.t < o.t:=by omega
  simp -implicitDefEqProofs [nJ,u1,u2,g1,cO]
 have cO : ¬ b.t < o.t:=by omega
 generalize dr b = b1 at u1
 cases b1
 ·simp -implicitDefEqProofs [nJ,u1,g1,cO]
 generalize cy o = b2 at u2
 cases b2
 ·simp -implicitDefEqProofs [nJ,u1,u2,g1,cO]
 by_cases g2 : b.kind = 1
 ·rw [g2] at u1
  simp -implicitDefEqProofs [nJ,u1,u2,g1,cO,g2]
 by_cases g3 : b.kind = 2
 ·rw [g3] at u1
  simp -implicitDefEqProofs [nJ,u1,u2,u4,g1,cO,g2,g3]
 generalize (dA o.resp.fields b.a).isSome = b3 at u3
 cases b3
 all_goals
 simp -implicitDefEqProofs [nJ,u1,u2,u3,u4,g1,cO,g2,g3]
 all_goals (repeat' split) <;> first | rfl | omega | (simp_all; done) | (simp_all; omega) | skip
theorem Nj (l : List Bn) (o : Ob) : aI (fun b=>!kB b o) l = !nA l o:=by
 unfold nA aI
 induction l with
 | nil=>rfl
 | cons b l ih=>simp only [List.all_cons,List.any_cons,ih,Bool.not_or]
theorem RP (l : List Bn) (o : Ob) (h1 : wL aR l≤1073741824) (h2 : aV o≤1073741824) : aC (ai (ev LI TT) (aj TT) zh) [(0,.row .af 4 (l.map aS)),(3,.ptr .own (bn .af o)),(5,.int .i64 0)] = if aI (fun b=>!kB b o) (l) = true then some (.exit 0,[(0,.row .af 4 (l.map aS)),(3,.ptr .own (bn .af o)),(5,.int .i64 (l).length),(9,.bool false)]) else some (.ret,[(4,.bool true)]):=by
 refine cG (f:=ai (ev LI TT) (aj TT) zh) (l) (fun i=>[(0,.row .af 4 (l.map aS)),(3,.ptr .own (bn .af o)),(5,.int .i64 i)]) (fun b=>!kB b o) _ _ (fun i b hi hl=>?_) ?_
 ·have hw:=aM i (by have:=aY (w:=aR) l; omega)
  obtain ⟨_,rfl⟩:=List.getElem?_eq_some_iff.1 hi
  have hm:=ET (List.getElem_mem hl)
  have u1:=UY l[i] o (by omega) h2
  try simp at u1
  cases hh : kB l[i] o <;> rw [hh] at u1
  all_goals
  simp -implicitDefEqProofs [zh,Jf,hl,hw,u1,hh]
  all_goals (repeat' split) <;> first | rfl | omega | (simp_all; done) | (simp_all; omega) | skip
 ·simp -implicitDefEqProofs [zh,Jf]
theorem UZ (l : List Bn) (o : Ob) (h1 : wL aR l≤1073741824) (h2 : aV o≤1073741824) : ev LI TT 172 [.row .af 4 (l.map aS),.agg (bn .af o)] = some (.bool (nA l o),[.dead,.dead]):=by
 rw [aq (b:=DY) (rs:=[.t 4]) (n:=2) rfl rfl]
 have u1:=RP  l o h1 h2
 try simp at u1
 rw [Nj] at u1
 cases hh : nA l o <;> rw [hh] at u1
 all_goals try simp at u1
 all_goals
 simp -implicitDefEqProofs [DY,u1]
 all_goals (repeat' split) <;> first | rfl | omega | (simp_all; done) | (simp_all; omega) | skip
theorem QU (l : List Bn) (o : Ob) (h1 : wL aR l≤1073741824) (h2 : aV o≤1073741824) : aC (ai (ev LI TT) (aj TT) xm) [(0,.row .af 4 (l.map aS)),(3,.ptr .own (bn .af o)),(7,.row .af 4 (l.map aS)),(8,.int .i64 l.length),(9,.int .i64 0)] = if aI (fun b=>!kB b o) (l) = true then some (.exit 0,[(0,.row .af 4 (l.map aS)),(3,.ptr .own (bn .af o)),(7,.row .af 4 (l.map aS)),(8,.int .i64 l.length),(9,.int .i64 (l).length),(10,.bool false)]) else some (.ret,[(4,.bool true)]):=by
 refine cG (f:=ai (ev LI TT) (aj TT) xm) (l) (fun i=>[(0,.row .af 4 (l.map aS)),(3,.ptr .own (bn .af o)),(7,.row .af 4 (l.map aS)),(8,.int .i64 l.length),(9,.int .i64 i)]) (fun b=>!kB b o) _ _ (fun i b hi hl=>?_) ?_
 ·have hw:=aM i (by have:=aY (w:=aR) l; omega)
  obtain ⟨_,rfl⟩:=List.getElem?_eq_some_iff.1 hi
  have hm:=ET (List.getElem_mem hl)
  have u1:=Tv l[i] o (by omega) h2
  try simp at u1
  cases hh : kB l[i] o <;> rw [hh] at u1
  all_goals
  simp -implicitDefEqProofs [xm,Hr,hl,hw,u1,hh]
  all_goals (repeat' split) <;> first | rfl | omega | (simp_all; done) | (simp_all; omega) | skip
 ·simp -implicitDefEqProofs [xm,Hr]
theorem Tw (l : List Bn) (o : Ob) (h1 : wL aR l≤1073741824) (h2 : aV o≤1073741824) : ev LI TT 194 [.row .af 4 (l.map aS),.agg (bn .af o)] = some (.bool (nA l o),[.dead,.dead]):=by
 rw [aq (b:=B1) (rs:=[.t 4]) (n:=2) rfl rfl]
 have u1:=QU  l o h1 h2
 try simp at u1
 rw [Nj] at u1
 cases hh : nA l o <;> rw [hh] at u1
 all_goals try simp at u1
 all_goals
 simp -implicitDefEqProofs [B1,u1]
 all_goals (repeat' split) <;> first | rfl | omega | (simp_all; done) | (simp_all; omega) | skip
end M
namespace M
open Go
end M
set_option maxHeartbeats 4000000
namespace M
open Go
end M
set_option maxHeartbeats 4000000
namespace M
open Go
structure Cc where
 ns : Bool
 nc : Bool
 pr : Bool
 mu : Bool
 ha : Bool
 Fc : Int
@[simp] def e8 (c : Cc) : List X:=[.bool c.ns,.bool c.nc,.bool c.pr,.bool c.mu,.bool c.ha,.int .i64 c.Fc]
def ez : Cc:=⟨false,false,false,false,false,0⟩
def yN : ag:=[110,111,45,115,116,111,114,101]
def yM : ag:=[110,111,45,99,97,99,104,101]
def yO : ag:=[112,114,105,118,97,116,101]
def yL : ag:=[109,117,115,116,45,114,101,118,97,108,105,100,97,116,101]
def jT : ag:=[109,97,120,45,97,103,101,61]
def s5 (w : ag) : Option Nat:=if Lib.hasPrefix w jT = true then some ((aZ (w.drop 8)).getD 0) else none
def l9 (c : Cc) (w : ag) : Cc:=if w = yN then { c with ns:=true } else if w = yM then { c with nc:=true } else if w = yO then { c with pr:=true } else if w = yL then { c with mu:=true } else
 match s5 w with
 | some n=>{ c with ha:=true,Fc:=if c.ha = true then min (n : Int) c.Fc else n }
 | none=>c
def qH (v : ag) : Cc:=(gB v).foldl (fun c w=>l9 c (bW w)) ez
def s6 (fs : List aF) : Cc:=qH ((dA fs lK).getD [])
theorem ID : (⟨#[110,111,45,115,116,111,114,101]⟩ : ByteArray) = ⟨yN.toArray⟩∧(⟨#[110,111,45,99,97,99,104,101]⟩ : ByteArray) = ⟨yM.toArray⟩∧(⟨#[112,114,105,118,97,116,101]⟩ : ByteArray) = ⟨yO.toArray⟩∧(⟨#[109,117,115,116,45,114,101,118,97,108,105,100,97,116,101]⟩ : ByteArray) = ⟨yL.toArray⟩∧(⟨#[109,97,120,45,97,103,101,61]⟩ : ByteArray) = ⟨jT.toArray⟩:=⟨rfl,rfl,rfl,rfl,rfl⟩
theorem Vg (w : ag) (hb : w.length≤1073741824) : ev LI TT 414 [.str ⟨w.toArray⟩] = some (.au [.int .i64 ((((s5 w).getD 0 : Nat) : Int)),.bool ((s5 w).isSome)],[.dead]):=by
 rw [aq (b:=vl) (rs:=[.t 2,.t 3]) (n:=1) rfl rfl]
 have hp:=Lib.hasPrefix_of_take w jT
 have l8 : jT.length = 8:=rfl
 have z : jT.toArray.size = 8:=rfl
 obtain ⟨t1,t2,t3,t4,t5⟩:=ID
 rw [l8] at hp
 unfold s5
 by_cases g8 : w.length < 8
 ·have : Lib.hasPrefix w jT = false:=by rw [← hp]; simp; omega
  have ja : (w.length : Int) < 8:=by omega
  simp -implicitDefEqProofs [vl,t5,this,g8,ja,ByteArray.size,z,l8]
 have ja : ¬ (w.length : Int) < 8:=by omega
 have g9 : (8 : Int)≤w.length:=by omega
 have g10 : 8≤w.length:=by omega
 have g11 : decide (8≤w.length) = true:=by simp; omega
 rw [g11,Bool.true_and] at hp
 by_cases g : w.take 8 = jT
 rotate_left
 ·have : Lib.hasPrefix w jT = false:=by rw [← hp]; simpa using g
  simp -implicitDefEqProofs [vl,t5,this,g8,ja,g9,g10,ByteArray.size,z,l8,Lib.extract_mk,eq_false g]
 have : Lib.hasPrefix w jT = true:=by rw [← hp]; simpa using g
 have u1:=sV (w.drop 8) (by simp; omega)
 have hz : (w.drop 8).take (w.length - 8) = w.drop 8:=List.take_of_length_le (by simp)
 simp -implicitDefEqProofs [vl,t5,this,g8,ja,g9,g10,ByteArray.size,z,l8,Lib.extract_mk,eq_true g,u1,hz]
 all_goals (repeat' split) <;> first | rfl | omega | (simp_all; done) | (simp_all; omega) | skip
theorem RJ (ws : List ag) (hl0 : ws.length≤1073741825) (hb : ∀ w∈ws,w.length≤1073741824) (g : Cc) : aC (ai (ev LI TT) (aj TT) mP) [(2,.ptr .own (e8 ez)),(3,.ptr .own (e8 g)),(4,.row .own 1 (ws.map eS)),(5,.int .i64 0)] = some (.exit 0,[(2,.ptr .own (e8 ez)),(3,.ptr .own (e8 ((ws).foldl (fun c w=>l9 c (bW w)) g))),(4,.row .own 1 (ws.map eS)),(5,.int .i64 (ws).length),(15,.bool false)]):=by
 refine Dl (f:=ai (ev LI TT) (aj TT) mP) (ws) (fun i (g : Cc)=>[(2,.ptr .own (e8 ez)),(3,.ptr .own (e8 g)),(4,.row .own 1 (ws.map eS)),(5,.int .i64 i)]) (fun c w=>l9 c (bW w)) (fun g=>[(2,.ptr .own (e8 ez)),(3,.ptr .own (e8 g)),(4,.row .own 1 (ws.map eS)),(5,.int .i64 (ws).length),(15,.bool false)]) (fun _ _=>True) g trivial (fun i b g hi hl _=>?_) (fun _ _ _ _ _=>trivial) (fun g _=>?_)
 ·have hw:=aM i (by first | omega | (simp at hl; omega))
  obtain ⟨_,rfl⟩:=List.getElem?_eq_some_iff.1 hi
  obtain ⟨t1,t2,t3,t4,t5⟩:=ID
  have hx:=hb _ (List.getElem_mem hl)
  have v1:=La ws[i] hx
  have v2 : (bW ws[i]).length≤1073741824:=by simp [bW]; exact hx
  generalize bW ws[i] = w at v1 v2
  have v3:=Vg w v2
  try simp at v1
  try simp at v3
  unfold l9
  by_cases g1 : w = yN
  ·simp -implicitDefEqProofs [mP,qb,hl,hw,v1,v3,t1,eq_true g1,ez]
  by_cases g2 : w = yM
  ·simp -implicitDefEqProofs [mP,qb,hl,hw,v1,v3,t1,t2,eq_false g1,eq_true g2,ez]
  by_cases g3 : w = yO
  ·simp -implicitDefEqProofs [mP,qb,hl,hw,v1,v3,t1,t2,t3,eq_false g1,eq_false g2,eq_true g3,ez]
  by_cases g4 : w = yL
  ·simp -implicitDefEqProofs [mP,qb,hl,hw,v1,v3,t1,t2,t3,t4,eq_false g1,eq_false g2,eq_false g3,eq_true g4,ez]
  cases ha : s5 w with
  | none =>
   rw [ha] at v3
   simp at v3
   simp -implicitDefEqProofs [mP,qb,hl,hw,v1,v3,t1,t2,t3,t4,eq_false g1,eq_false g2,eq_false g3,eq_false g4,ez]
  | some n =>
  rw [ha] at v3
  simp at v3
  cases gh : g.ha
  all_goals
  simp -implicitDefEqProofs [mP,qb,hl,hw,v1,v3,t1,t2,t3,t4,eq_false g1,eq_false g2,eq_false g3,eq_false g4,gh,ez]
  all_goals (repeat' split) <;> first | rfl | omega | (simp_all; done) | (simp_all; omega) | skip
 ·simp -implicitDefEqProofs [mP,qb]
theorem US (v : ag) (hb : v.length≤1073741824) : ev LI TT 351 [.str ⟨v.toArray⟩] = some (.agg (e8 (qH v)),[.dead]):=by
 rw [aq (b:=DP) (rs:=[.c 2 6 true 282]) (n:=1) rfl rfl]
 have hm:=Aj v
 have hn:=Ai v
 have u1:=Lf  v hb
 try simp at u1
 have u2:=RJ  (gB v) (by omega) (fun w hw=>by have:=hm w hw; omega) ez
 try simp at u2
 rw [show (gB v).foldl (fun c w=>l9 c (bW w)) ez = qH v from rfl] at u2
 simp [ez] at u2
 simp -implicitDefEqProofs [DP,u1,u2,ez]
 all_goals (repeat' split) <;> first | rfl | omega | (simp_all; done) | (simp_all; omega) | skip
theorem UR (fs : List aF) (hb : wL aJ fs≤1073741824) : ev LI TT 257 [.row .af 2 (fs.map aG)] = some (.agg (e8 (s6 fs)),[.dead]):=by
 rw [aq (b:=DO) (rs:=[.c 2 6 true 282]) (n:=1) rfl rfl]
 have hfl:=aY (w:=aJ) fs
 have hg:=tq fs lK
 have t3 : (⟨#[99,97,99,104,101,45,99,111,110,116,114,111,108]⟩ : ByteArray) = ⟨lK.toArray⟩:=rfl
 have u1:=FM  fs lK (by omega)
 try simp at u1
 have u2:=US  ((dA fs lK).getD []) (by omega)
 try simp at u2
 rw [show qH ((dA fs lK).getD []) = s6 fs from rfl] at u2
 simp -implicitDefEqProofs [DO,u1,u2,t3]
 all_goals (repeat' split) <;> first | rfl | omega | (simp_all; done) | (simp_all; omega) | skip
theorem Vw {w : ag} (h : w = yN∨w = yM∨w = yO∨w = yL) : Lib.hasPrefix w jT = false:=by
 rcases h with rfl | rfl | rfl | rfl <;> decide
theorem Tp (c : Cc) (w : ag) (hb : w.length≤1073741824) : ev LI TT 424 [.ptr .own (e8 c),.str ⟨w.toArray⟩] = some (.au [],[.ptr .own (e8 (l9 c w)),.dead]):=by
 rw [aq (b:=nH) (rs:=[]) (n:=2) rfl rfl]
 obtain ⟨t1,t2,t3,t4,t5⟩:=ID
 have v3:=Vq w jT (by omega)
 have hword:=Vw (w:=w)
 unfold l9
 by_cases g1 : w = yN
 ·rw [hword (Or.inl g1)] at v3
  simp -implicitDefEqProofs [nH,v3,t1,t5,eq_true g1]
 by_cases g2 : w = yM
 ·rw [hword (by simp [g2])] at v3
  simp -implicitDefEqProofs [nH,v3,t1,t2,t5,eq_false g1,eq_true g2]
 by_cases g3 : w = yO
 ·rw [hword (by simp [g3])] at v3
  simp -implicitDefEqProofs [nH,v3,t1,t2,t3,t5,eq_false g1,eq_false g2,eq_true g3]
 by_cases g4 : w = yL
 ·rw [hword (by simp [g4])] at v3
  simp -implicitDefEqProofs [nH,v3,t1,t2,t3,t4,t5,eq_false g1,eq_false g2,eq_false g3,eq_true g4]
 unfold s5
 cases hp : Lib.hasPrefix w jT
 ·rw [hp] at v3
  simp -implicitDefEqProofs [nH,v3,t1,t2,t3,t4,t5,eq_false g1,eq_false g2,eq_false g3,eq_false g4]
 rw [hp,show Lib.trimPrefix w jT = w.drop 8 by unfold Lib.trimPrefix; rw [hp]; rfl] at v3
 have v4:=sU (w.drop 8) (by simp; omega)
 try simp at v3
 try simp at v4
 generalize (aZ (w.drop 8)).getD 0 = n at v4
 cases gh : c.ha
 all_goals
 simp -implicitDefEqProofs [nH,v3,v4,t1,t2,t3,t4,t5,eq_false g1,eq_false g2,eq_false g3,eq_false g4,gh]
 all_goals (repeat' split) <;> first | rfl | omega | (simp_all; done) | (simp_all; omega) | skip
theorem QM (ws : List ag) (hl0 : ws.length≤1073741825) (hb : ∀ w∈ws,w.length≤1073741824) (g : Cc) : aC (ai (ev LI TT) (aj TT) xg) [(2,.ptr .own (e8 ez)),(3,.ptr .own (e8 g)),(7,.row .own 1 (ws.map eS)),(8,.int .i64 ws.length),(9,.int .i64 0)] = some (.exit 0,[(2,.ptr .own (e8 ez)),(3,.ptr .own (e8 ((ws).foldl (fun c w=>l9 c (bW w)) g))),(7,.row .own 1 (ws.map eS)),(8,.int .i64 ws.length),(9,.int .i64 (ws).length),(10,.bool false)]):=by
 refine Dl (f:=ai (ev LI TT) (aj TT) xg) (ws) (fun i (g : Cc)=>[(2,.ptr .own (e8 ez)),(3,.ptr .own (e8 g)),(7,.row .own 1 (ws.map eS)),(8,.int .i64 ws.length),(9,.int .i64 i)]) (fun c w=>l9 c (bW w)) (fun g=>[(2,.ptr .own (e8 ez)),(3,.ptr .own (e8 g)),(7,.row .own 1 (ws.map eS)),(8,.int .i64 ws.length),(9,.int .i64 (ws).length),(10,.bool false)]) (fun _ _=>True) g trivial (fun i b g hi hl _=>?_) (fun _ _ _ _ _=>trivial) (fun g _=>?_)
 ·have hw:=aM i (by first | omega | (simp at hl; omega))
  obtain ⟨_,rfl⟩:=List.getElem?_eq_some_iff.1 hi
  have hx:=hb _ (List.getElem_mem hl)
  have v1:=KP ws[i] hx
  have v2 : (bW ws[i]).length≤1073741824:=by simp [bW]; exact hx
  have v3:=Tp g (bW ws[i]) v2
  try simp at v1
  try simp at v3
  simp -implicitDefEqProofs [xg,Hl,hl,hw,v1,v3,ez]
  all_goals (repeat' split) <;> first | rfl | omega | (simp_all; done) | (simp_all; omega) | skip
 ·simp -implicitDefEqProofs [xg,Hl]
theorem To (v : ag) (hb : v.length≤1073741824) : ev LI TT 378 [.str ⟨v.toArray⟩] = some (.agg (e8 (qH v)),[.dead]):=by
 rw [aq (b:=BS) (rs:=[.c 2 6 true 282]) (n:=1) rfl rfl]
 have hm:=Aj v
 have hn:=Ai v
 have u1:=KX  v hb
 try simp at u1
 have u2:=QM  (gB v) (by omega) (fun w hw=>by have:=hm w hw; omega) ez
 try simp at u2
 rw [show (gB v).foldl (fun c w=>l9 c (bW w)) ez = qH v from rfl] at u2
 simp [ez] at u2
 simp -implicitDefEqProofs [BS,u1,u2,ez]
 all_goals (repeat' split) <;> first | rfl | omega | (simp_all; done) | (simp_all; omega) | skip
theorem Tn (fs : List aF) (hb : wL aJ fs≤1073741824) : ev LI TT 295 [.row .af 2 (fs.map aG)] = some (.agg (e8 (s6 fs)),[.dead]):=by
 rw [aq (b:=BR) (rs:=[.c 2 6 true 282]) (n:=1) rfl rfl]
 have hfl:=aY (w:=aJ) fs
 have hg:=tq fs lK
 have t3 : (⟨#[99,97,99,104,101,45,99,111,110,116,114,111,108]⟩ : ByteArray) = ⟨lK.toArray⟩:=rfl
 have u1:=Fv  fs lK (by omega)
 try simp at u1
 have u2:=To  ((dA fs lK).getD []) (by omega)
 try simp at u2
 rw [show qH ((dA fs lK).getD []) = s6 fs from rfl] at u2
 simp -implicitDefEqProofs [BR,u1,u2,t3]
 all_goals (repeat' split) <;> first | rfl | omega | (simp_all; done) | (simp_all; omega) | skip
end M
set_option maxHeartbeats 4000000
namespace M
open Go
theorem FO (q : Rq) (hb : cq q≤1073741824) : ev LI TT 160 [.agg (gY .af q)] = some (.bool (lQ q),[.dead]):=by
 rw [aq (b:=u0) (rs:=[.t 2]) (n:=1) rfl rfl]
 have q7 : cq q = q.path.length + wL aJ q.fields + q.body.length:=rfl
 unfold lQ
 have u1:=FU  q.path (by omega)
 try simp at u1
 have u2:=K9  q.fields (by omega)
 try simp at u2
 by_cases g1 : 1≤q.method
 rotate_left
 ·simp -implicitDefEqProofs [u0,u1,u2,eq_false g1]
 by_cases g2 : q.method≤4
 rotate_left
 ·simp -implicitDefEqProofs [u0,u1,u2,eq_true g1,eq_false g2]
 cases g3 : fZ q.path <;> cases g4 : iC q.fields <;> rw [g3] at u1 <;> rw [g4] at u2
 all_goals
 simp -implicitDefEqProofs [u0,u1,u2,eq_true g1,eq_true g2]
 all_goals (repeat' split) <;> first | rfl | omega | (simp_all; done) | (simp_all; omega) | skip
theorem KS (q : Rq) (hb : cq q≤1073741824) : ev LI TT 234 [.agg (gY .af q)] = some (.bool (lQ q),[.dead]):=by
 rw [aq (b:=tK) (rs:=[.t 2]) (n:=1) rfl rfl]
 have q7 : cq q = q.path.length + wL aJ q.fields + q.body.length:=rfl
 unfold lQ
 have u1:=Fy  q.path (by omega)
 try simp at u1
 have u2:=KO  q.fields (by omega)
 try simp at u2
 by_cases g1 : 1≤q.method
 rotate_left
 ·simp -implicitDefEqProofs [tK,u1,u2,eq_false g1]
 by_cases g2 : q.method≤4
 rotate_left
 ·simp -implicitDefEqProofs [tK,u1,u2,eq_true g1,eq_false g2]
 cases g3 : fZ q.path <;> cases g4 : iC q.fields <;> rw [g3] at u1 <;> rw [g4] at u2
 all_goals
 simp -implicitDefEqProofs [tK,u1,u2,eq_true g1,eq_true g2]
 all_goals (repeat' split) <;> first | rfl | omega | (simp_all; done) | (simp_all; omega) | skip
def qy (q : Rq) : Bool:=lQ q && decide (q.method = 1) && !(s6 q.fields).ns
def jD (a b : Rq) : Bool:=qy a && qy b && decide (a.path = b.path) && decide (a.fields = b.fields)
theorem K3 (q : Rq) (hb : cq q≤1073741824) : ev LI TT 342 [.agg (gY .af q)] = some (.bool (qy q),[.dead]):=by
 rw [aq (b:=Co) (rs:=[.t 2]) (n:=1) rfl rfl]
 have q7 : cq q = q.path.length + wL aJ q.fields + q.body.length:=rfl
 unfold qy
 have u1:=KS  q hb
 try simp at u1
 have u2:=Tn  q.fields (by omega)
 try simp at u2
 cases g3 : lQ q <;> rw [g3] at u1
 all_goals by_cases g4 : q.method = 1
 all_goals
 simp -implicitDefEqProofs [Co,u1,u2,g4]
 all_goals (repeat' split) <;> first | rfl | omega | (simp_all; done) | (simp_all; omega) | skip
theorem Mr (a b : aF) : a = b↔(a.name = b.name∧a.value = b.value):=by cases a; cases b; simp
theorem Su (ps : List (aF×aF)) (hb : ps.length≤9223372036854775807) : aC (ai (ev LI TT) (aj TT) Am) [(0,.row .af 2 (ps.map fun x=>aG x.1)),(1,.row .af 2 (ps.map fun x=>aG x.2)),(12,.int .i64 ps.length),(13,.int .i64 0)] = if aI b8 (ps) = true then some (.exit 0,[(0,.row .af 2 (ps.map fun x=>aG x.1)),(1,.row .af 2 (ps.map fun x=>aG x.2)),(12,.int .i64 ps.length),(13,.int .i64 ps.length),(14,.bool false)]) else some (.ret,[(4,.bool false)]):=by
 refine cG (f:=ai (ev LI TT) (aj TT) Am) (ps) (fun i=>[(0,.row .af 2 (ps.map fun x=>aG x.1)),(1,.row .af 2 (ps.map fun x=>aG x.2)),(12,.int .i64 ps.length),(13,.int .i64 i)]) b8 _ _ (fun i b hi hl=>?_) ?_
 ·have hw:=aM i (by first | omega | (simp at hl; omega))
  obtain ⟨_,rfl⟩:=List.getElem?_eq_some_iff.1 hi
  simp -implicitDefEqProofs [Am,J5,hl,hw,b8,Mr]
  first | done | (split <;> simp_all; done) | (split <;> simp_all <;> (intro h; simp_all))
 ·simp -implicitDefEqProofs [Am,J5]
theorem Ln (a b : List aF) (hb : a.length≤9223372036854775807) : ev LI TT 343 [.row .af 2 (a.map aG),.row .af 2 (b.map aG)] = some (.bool (decide (a = b)),[.dead,.dead]):=by
 rw [aq (b:=EZ) (rs:=[.t 4]) (n:=2) rfl rfl]
 simp -implicitDefEqProofs [EZ]
 by_cases h : a.length = b.length
 ·obtain ⟨ps,rfl,rfl⟩:=j9 h
  have h1:=Su ps (by simpa using hb)
  have h2:=jE ps
  simp at h1
  rw [← h2]
  cases h3 : aI b8 ps <;> rw [h3] at h1 <;> simp [h1,Function.comp_def]
 ·have : ¬ a = b:=fun e=>h (by rw [e])
  simp [this]
  omega
theorem Ti (a : Rq) (b : Rq) (ha : cq a≤1073741824) (hb : cq b≤1073741824) : ev LI TT 236 [.agg (gY .af a),.agg (gY .af b)] = some (.bool (jD a b),[.dead,.dead]):=by
 rw [aq (b:=q9) (rs:=[.t 4]) (n:=2) rfl rfl]
 have q7 : cq a = a.path.length + wL aJ a.fields + a.body.length:=rfl
 have l2:=aY (w:=aJ) a.fields
 unfold jD
 have u1:=K3  a ha
 try simp at u1
 have u2:=K3  b hb
 try simp at u2
 have u3:=Ln  a.fields b.fields (by omega)
 try simp at u3
 generalize qy a = g1 at u1
 generalize qy b = g2 at u2
 generalize decide (a.fields = b.fields) = g4 at u3
 cases g1
 ·simp -implicitDefEqProofs [q9,u1]
 cases g2
 ·simp -implicitDefEqProofs [q9,u1,u2]
 by_cases g3 : a.path = b.path
 rotate_left
 ·simp -implicitDefEqProofs [q9,u1,u2,eq_false g3]
 simp -implicitDefEqProofs [q9,u1,u2,u3,eq_true g3]
 all_goals (repeat' split) <;> first | rfl | omega | (simp_all; done) | (simp_all; omega) | skip
theorem Kl {α : Type} [DecidableEq α] : ∀ {a b : List α},(∀ x∈a.zip b,¬ (decide (x.1≠x.2)) = true)→a.length = b.length→a = b
 | [],[],_,_=>rfl
 | x :: a,y :: b,h,hl=>by
  have h1:=h (x,y) (by simp)
  simp at h1
  have h2 : a = b:=Kl (fun z hz=>h z (by simp only [List.zip_cons_cons]; exact List.mem_cons_of_mem _ hz)) (by simpa using hl)
  rw [h1,h2]
theorem QF {α : Type} {a b : List α} {x : α×α} (hx : x∈a.zip b) (h : x.1≠x.2) : a≠b:=by
 rintro rfl
 have : ∀ {l : List α} {x : α×α},x∈l.zip l→x.1 = x.2:=by
  intro l
  induction l with
  | nil=>intro x h; simp at h
  | cons y l ih =>
   intro x h
   simp only [List.zip_cons_cons,List.mem_cons] at h
   rcases h with rfl | h
   ·rfl
   ·exact ih h
 exact h (this hx)
theorem Sd (a : List aF) (b : List aF) (hb : a.length≤9223372036854775807) (fQ : b.length≤9223372036854775807) : aC (ai (ev LI TT) (aj TT) ve) [(0,.row .af 2 (a.map aG)),(1,.row .af 2 (b.map aG)),(5,.int .i64 0)] = (cC (fun x=>decide (x.1≠x.2)) 0 (a.zip b)).elim (some (.exit 0,[(0,.row .af 2 (a.map aG)),(1,.row .af 2 (b.map aG)),(5,.int .i64 (a.zip b).length),(15,.bool false)])) fun x=>some (.ret,(fun (i : Nat) b=>[(4,.bool false)]) x.1 x.2):=by
 refine pT (f:=ai (ev LI TT) (aj TT) ve) (a.zip b) (fun i=>[(0,.row .af 2 (a.map aG)),(1,.row .af 2 (b.map aG)),(5,.int .i64 i)]) (fun x=>decide (x.1≠x.2)) (fun (i : Nat) b=>[(4,.bool false)]) _ (fun i b hi hl=>?_) ?_
 ·have hw:=aM i (by first | omega | (simp at hl; omega))
  obtain ⟨_,rfl⟩:=List.getElem?_eq_some_iff.1 hi
  have ha : i < a.length:=by simp at hl; omega
  have hb' : i < b.length:=by simp at hl; omega
  simp -implicitDefEqProofs [ve,Em,hl,hw,ha,hb',Mr]
 ·have hz : (a.zip b).length = min a.length b.length:=by simp
  rw [hz]
  by_cases hh : a.length≤b.length
  ·rw [Nat.min_eq_left hh]; simp -implicitDefEqProofs [ve,Em]
  have h1 : b.length≤a.length:=by omega
  have h2 : (b.length : Int) < a.length:=by omega
  have h3 : b.length < a.length:=by omega
  rw [Nat.min_eq_right h1]
  simp -implicitDefEqProofs [ve,Em,h2,h3]
theorem Vc (a : List aF) (b : List aF) (hb : a.length≤9223372036854775807) (fQ : b.length≤9223372036854775807) : ev LI TT 256 [.row .af 2 (a.map aG),.row .af 2 (b.map aG)] = some (.bool (decide (a = b)),[.dead,.dead]):=by
 rw [aq (b:=vf) (rs:=[.t 4]) (n:=2) rfl rfl]
 have h:=Sd a b hb fQ
 cases g : cC (fun x : aF×aF=>decide (x.1≠x.2)) 0 (a.zip b) with
 | some x =>
  obtain ⟨i,x⟩:=x
  obtain ⟨_,h1,h2⟩:=oV g
  have h3 : ¬ a = b:=QF (List.mem_of_getElem? h1) (by simpa using h2)
  rw [g] at h; simp only [Option.elim] at h; simp -implicitDefEqProofs [vf,h,h3]
 | none =>
 have h1:=Bj.1 g
 rw [g] at h
 simp only [Option.elim] at h
 try simp at h
 by_cases hl : a.length = b.length
 ·have h2:=Kl h1 hl
  subst h2
  try simp at h
  simp -implicitDefEqProofs [vf,h]
 have h3 : ¬ a = b:=fun e=>hl (by rw [e])
 have h4 : ¬ (a.length : Int) = b.length:=by omega
 simp -implicitDefEqProofs [vf,h,h3,h4]
 all_goals (repeat' split) <;> first | rfl | omega | (simp_all; done) | (simp_all; omega) | skip
theorem UN (a : Rq) (b : Rq) (ha : cq a≤1073741824) (hb : cq b≤1073741824) : ev LI TT 162 [.agg (gY .af a),.agg (gY .af b)] = some (.bool (jD a b),[.dead,.dead]):=by
 rw [aq (b:=mN) (rs:=[.t 4]) (n:=2) rfl rfl]
 have q7 : cq a = a.path.length + wL aJ a.fields + a.body.length:=rfl
 have wZ : cq b = b.path.length + wL aJ b.fields + b.body.length:=rfl
 have l2:=aY (w:=aJ) a.fields
 have l3:=aY (w:=aJ) b.fields
 unfold jD qy
 have u1:=FO  a ha
 try simp at u1
 have u2:=FO  b hb
 try simp at u2
 have u3:=Vc  a.fields b.fields (by omega) (by omega)
 try simp at u3
 have u4:=UR  a.fields (by omega)
 try simp at u4
 generalize lQ a = g1 at u1
 generalize lQ b = g2 at u2
 cases g1
 ·simp -implicitDefEqProofs [mN,u1]
 cases g2
 ·simp -implicitDefEqProofs [mN,u1,u2]
 by_cases g4 : a.method = 1
 rotate_left
 ·simp -implicitDefEqProofs [mN,u1,u2,g4]
 rw [g4] at u1
 by_cases g5 : b.method = 1
 rotate_left
 ·simp -implicitDefEqProofs [mN,u1,u2,g4,g5]
 rw [g5] at u2
 by_cases g3 : a.path = b.path
 rotate_left
 ·simp -implicitDefEqProofs [mN,u1,u2,g4,g5,eq_false g3]
 rw [← g3] at u2
 by_cases g6 : a.fields = b.fields
 rotate_left
 ·rw [decide_eq_false g6] at u3
  simp -implicitDefEqProofs [mN,u1,u2,u3,g4,g5,← g3,eq_false g6]
 rw [decide_eq_true g6] at u3
 generalize hns : (s6 a.fields).ns = g7 at u4
 have Nl:=hns
 rw [g6] at Nl
 cases g7
 all_goals
 simp -implicitDefEqProofs [mN,u1,u2,u3,u4,g4,g5,← g3,eq_true g6,hns,Nl]
 all_goals (repeat' split) <;> first | rfl | omega | (simp_all; done) | (simp_all; omega) | skip
end M
set_option maxHeartbeats 4000000
namespace M
open Go
def nj (l : List Fl) (x : Fl×Nat) : Bool:=lQ x.1.q && decide (1≤(x.1.who.length : Int)∧(x.1.who.length : Int)≤5) && (!x.1.mj || cy x.1.old) && aI (fun y=>!jD y.q x.1.q) (l.take x.2)
def wz (l : List Fl) : Bool:=decide ((l.length : Int)≤5) && aI (nj l) l.zipIdx
def kV (c : Ca) : Bool:=j0 c.aE && decide (0≤c.now∧c.now≤1000000) && decide ((c.seen.length : Int)≤1500) && decide ((c.sent.length : Int)≤1500) && wz c.bD
theorem EU {l : List Fl} {x : Fl} (h : x∈l) : cq x.q≤wL b9 l∧aV x.old≤wL b9 l:=by
 have h1:=ew (w:=b9) h
 have h2 : b9 x = cq x.q + wL wO x.who + aV x.old:=rfl
 omega
theorem Ag (c : Ca) : wL b9 c.bD≤dn c:=by unfold dn; omega
theorem RH (c : Ca) (n : Nat) (x : Fl) (hn : n≤c.bD.length) (hx : cq x.q≤1073741824) (hc : dn c≤1073741824) : aC (ai (ev LI TT) (aj TT) za) [(1,.ptr .own (en .af c)),(3,.int .i64 n),(4,.ptr .own (bM .af x)),(5,.int .i64 0)] = if aI (fun y=>!jD y.q x.q) (c.bD.take n) = true then some (.exit 2,[(1,.ptr .own (en .af c)),(3,.int .i64 n),(4,.ptr .own (bM .af x)),(5,.int .i64 (c.bD.take n).length),(69,.bool false)]) else some (.ret,[(2,.bool false)]):=by
 refine cG (f:=ai (ev LI TT) (aj TT) za) (c.bD.take n) (fun i=>[(1,.ptr .own (en .af c)),(3,.int .i64 n),(4,.ptr .own (bM .af x)),(5,.int .i64 i)]) (fun y=>!jD y.q x.q) _ _ (fun i b hi hl=>?_) ?_
 ·have hw:=aM i (by have:=aY (w:=b9) c.bD; have:=Ag c; simp at hl; omega)
  obtain ⟨_,rfl⟩:=List.getElem?_eq_some_iff.1 hi
  have h1 : i < n:=by simp at hl; omega
  have h2 : i < c.bD.length:=by omega
  have h3:=Ag c
  have h4:=EU (List.getElem_mem h2)
  have u1:=UN (c.bD[i]).q x.q (by omega) hx
  cases hal : jD (c.bD[i]).q x.q <;> rw [hal] at u1 <;> simp at u1
  all_goals
  simp -implicitDefEqProofs [za,Jb,hl,hw,h1,h2,u1,hal]
  all_goals (repeat' split) <;> first | rfl | omega | (simp_all; done) | (simp_all; omega) | skip
 ·have hmin : min n c.bD.length = n:=by omega
  simp -implicitDefEqProofs [za,Jb,hmin]
theorem RI (c : Ca) (hc : dn c≤100000000) : aC (ai (ev LI TT) (aj TT) rU) [(1,.ptr .own (en .af c)),(3,.int .i64 0)] = if aI (nj c.bD) (c.bD.zipIdx) = true then some (.exit 0,[(1,.ptr .own (en .af c)),(3,.int .i64 (c.bD.zipIdx).length),(38,.bool false)]) else some (.ret,[(2,.bool false)]):=by
 refine cG (f:=ai (ev LI TT) (aj TT) rU) (c.bD.zipIdx) (fun i=>[(1,.ptr .own (en .af c)),(3,.int .i64 i)]) (nj c.bD) _ _ (fun i b hi hl=>?_) ?_
 ·have hw:=aM i (by have:=aY (w:=b9) c.bD; have:=Ag c; simp at hl; omega)
  obtain ⟨_,rfl⟩:=List.getElem?_eq_some_iff.1 hi
  simp only [List.length_zipIdx] at hl
  have hz : c.bD.zipIdx[i]'(by simpa using hl) = (c.bD[i],i):=by simp
  have h3:=Ag c
  have h4:=EU (List.getElem_mem hl)
  have hmin : min i c.bD.length = i:=by omega
  rw [hz]
  unfold nj
  have u1:=FO  (c.bD[i]).q (by omega)
  try simp at u1
  have u2:=AP  (c.bD[i]).old (by omega)
  try simp at u2
  have u3:=RH  c i c.bD[i] (by omega) (by omega) (by omega)
  try simp at u3
  generalize lQ (c.bD[i]).q = b1 at u1
  cases b1
  ·simp -implicitDefEqProofs [rU,uW,hl,hw,u1]
  by_cases g2 : 1≤((c.bD[i]).who.length : Int)∧((c.bD[i]).who.length : Int)≤5
  rotate_left
  ·simp only [rU,decide_eq_false g2,Bool.and_false,Bool.false_and]
   by_cases k6 : 1≤((c.bD[i]).who.length : Int)
   ·have qQ : ¬ ((c.bD[i]).who.length : Int)≤5:=fun h=>g2 ⟨k6,h⟩
    simp -implicitDefEqProofs [uW,hl,hw,u1,k6,qQ]
   ·simp -implicitDefEqProofs [uW,hl,hw,u1,k6]
  rw [decide_eq_true g2]
  obtain ⟨k6,qQ⟩:=g2
  generalize cy (c.bD[i]).old = b2 at u2
  cases wP : (c.bD[i]).mj
  all_goals rw [wP] at u3
  all_goals cases b2
  all_goals cases g5 : aI (fun y : Fl=>!jD y.q (c.bD[i]).q) (c.bD.take i) <;> rw [g5] at u3
  all_goals try simp at u3
  all_goals
  simp -implicitDefEqProofs [rU,uW,hl,hw,u1,u2,u3,hmin,k6,qQ,wP,g5]
  all_goals (repeat' split) <;> first | rfl | omega | (simp_all; done) | (simp_all; omega) | skip
 ·simp -implicitDefEqProofs [rU,uW]
theorem UQ (c : Ca) (hc : dn c≤100000000) : ev LI TT 67 [.agg (en .af c)] = some (.bool (kV c),[.dead]):=by
 rw [aq (b:=mO) (rs:=[.t 2]) (n:=1) rfl rfl]
 have hsh : bT c.aE≤dn c:=by unfold dn; omega
 unfold kV wz
 have u1:=U5  c.aE (by omega)
 try simp at u1
 have u2:=RI  c hc
 try simp at u2
 generalize j0 c.aE = b1 at u1
 cases b1
 ·simp -implicitDefEqProofs [mO,u1]
 by_cases g1 : 0≤c.now
 rotate_left
 ·simp -implicitDefEqProofs [mO,u1,g1]
 by_cases g2 : c.now≤1000000
 rotate_left
 ·simp -implicitDefEqProofs [mO,u1,g1,g2]
 by_cases g3 : (c.bD.length : Int)≤5
 rotate_left
 ·have hO : 5 < (c.bD.length : Int):=by omega
  simp -implicitDefEqProofs [mO,u1,g1,g2,g3,hO]
 by_cases g4 : (c.seen.length : Int)≤1500
 rotate_left
 ·have kr : 1500 < (c.seen.length : Int):=by omega
  simp -implicitDefEqProofs [mO,u1,g1,g2,g3,g4,kr,(by omega : ¬ 5 < (c.bD.length : Int))]
 by_cases g5 : (c.sent.length : Int)≤1500
 rotate_left
 ·have oY : 1500 < (c.sent.length : Int):=by omega
  simp -implicitDefEqProofs [mO,u1,g1,g2,g3,g4,g5,oY,(by omega : ¬ 5 < (c.bD.length : Int)),(by omega : ¬ 1500 < (c.seen.length : Int))]
 have hO : ¬ 5 < (c.bD.length : Int):=by omega
 have kr : ¬ 1500 < (c.seen.length : Int):=by omega
 have oY : ¬ 1500 < (c.sent.length : Int):=by omega
 cases g6 : aI (nj c.bD) c.bD.zipIdx <;> rw [g6] at u2
 all_goals try simp at u2
 all_goals
 simp -implicitDefEqProofs [mO,u1,u2,g1,g2,g3,g4,g5,hO,kr,oY,g6]
 all_goals (repeat' split) <;> first | rfl | omega | (simp_all; done) | (simp_all; omega) | skip
theorem Q5 (l : List Fl) (n : Nat) (x : Fl) (hn : n≤l.length) (hx : cq x.q≤1073741824) (hc : wL b9 l≤100000000) : aC (ai (ev LI TT) (aj TT) xJ) [(0,.row .af 13 (l.map (bM .af))),(4,.ptr .own (bM .af x)),(7,.row .af 13 (l.map (bM .af))),(8,.int .i64 l.length),(9,.int .i64 n),(35,.row .af 13 (l.map (bM .af))),(36,.int .i64 n),(37,.row .af 13 ((l.take n).map (bM .af))),(38,.int .i64 n),(39,.int .i64 0)] = if aI (fun y=>!jD y.q x.q) (l.take n) = true then some (.exit 2,[(0,.row .af 13 (l.map (bM .af))),(4,.ptr .own (bM .af x)),(7,.row .af 13 (l.map (bM .af))),(8,.int .i64 l.length),(9,.int .i64 n),(35,.row .af 13 (l.map (bM .af))),(36,.int .i64 n),(37,.row .af 13 ((l.take n).map (bM .af))),(38,.int .i64 n),(39,.int .i64 (l.take n).length),(40,.bool false)]) else some (.ret,[(2,.bool false)]):=by
 refine cG (f:=ai (ev LI TT) (aj TT) xJ) (l.take n) (fun i=>[(0,.row .af 13 (l.map (bM .af))),(4,.ptr .own (bM .af x)),(7,.row .af 13 (l.map (bM .af))),(8,.int .i64 l.length),(9,.int .i64 n),(35,.row .af 13 (l.map (bM .af))),(36,.int .i64 n),(37,.row .af 13 ((l.take n).map (bM .af))),(38,.int .i64 n),(39,.int .i64 i)]) (fun y=>!jD y.q x.q) _ _ (fun i b hi hl=>?_) ?_
 ·have hw:=aM i (by have:=aY (w:=b9) l; simp at hl; omega)
  obtain ⟨_,rfl⟩:=List.getElem?_eq_some_iff.1 hi
  have h1 : i < n:=by simp at hl; omega
  have h2 : i < l.length:=by omega
  have h4:=EU (List.getElem_mem h2)
  have u1:=Ti (l[i]).q x.q (by omega) hx
  cases hal : jD (l[i]).q x.q <;> rw [hal] at u1 <;> simp at u1
  all_goals
  simp -implicitDefEqProofs [xJ,HB,hl,hw,h1,h2,u1,hal]
  all_goals (repeat' split) <;> first | rfl | omega | (simp_all; done) | (simp_all; omega) | skip
 ·have hmin : min n l.length = n:=by omega
  simp -implicitDefEqProofs [xJ,HB,hmin]
theorem Q6 (l : List Fl) (hc : wL b9 l≤100000000) : aC (ai (ev LI TT) (aj TT) rB) [(0,.row .af 13 (l.map (bM .af))),(7,.row .af 13 (l.map (bM .af))),(8,.int .i64 l.length),(9,.int .i64 0)] = if aI (nj l) (l.zipIdx) = true then some (.exit 0,[(0,.row .af 13 (l.map (bM .af))),(7,.row .af 13 (l.map (bM .af))),(8,.int .i64 l.length),(9,.int .i64 (l.zipIdx).length),(10,.bool false)]) else some (.ret,[(2,.bool false)]):=by
 refine cG (f:=ai (ev LI TT) (aj TT) rB) (l.zipIdx) (fun i=>[(0,.row .af 13 (l.map (bM .af))),(7,.row .af 13 (l.map (bM .af))),(8,.int .i64 l.length),(9,.int .i64 i)]) (nj l) _ _ (fun i b hi hl=>?_) ?_
 ·have hw:=aM i (by have:=aY (w:=b9) l; simp at hl; omega)
  obtain ⟨_,rfl⟩:=List.getElem?_eq_some_iff.1 hi
  simp only [List.length_zipIdx] at hl
  have hz : l.zipIdx[i]'(by simpa using hl) = (l[i],i):=by simp
  have h4:=EU (List.getElem_mem hl)
  have hmin : min i l.length = i:=by omega
  have hle : (i : Int)≤l.length:=by omega
  have hle2 : i≤l.length:=by omega
  rw [hz]
  unfold nj
  have u1:=KS  (l[i]).q (by omega)
  try simp at u1
  have u2:=AN  (l[i]).old (by omega)
  try simp at u2
  have u3:=Q5  l i l[i] (by omega) (by omega) (by omega)
  try simp at u3
  generalize lQ (l[i]).q = b1 at u1
  cases b1
  ·simp -implicitDefEqProofs [rB,tP,hl,hw,u1]
  by_cases g2 : 1≤((l[i]).who.length : Int)∧((l[i]).who.length : Int)≤5
  rotate_left
  ·simp only [rB,decide_eq_false g2,Bool.and_false,Bool.false_and]
   by_cases k6 : 1≤((l[i]).who.length : Int)
   ·have qQ : ¬ ((l[i]).who.length : Int)≤5:=fun h=>g2 ⟨k6,h⟩
    simp -implicitDefEqProofs [tP,hl,hw,u1,k6,qQ]
   ·simp -implicitDefEqProofs [tP,hl,hw,u1,k6]
  rw [decide_eq_true g2]
  obtain ⟨k6,qQ⟩:=g2
  generalize cy (l[i]).old = b2 at u2
  cases wP : (l[i]).mj
  all_goals rw [wP] at u3
  all_goals cases b2
  all_goals cases g5 : aI (fun y : Fl=>!jD y.q (l[i]).q) (l.take i) <;> rw [g5] at u3
  all_goals try simp at u3
  all_goals try simp only [hmin] at u3
  all_goals
  simp -implicitDefEqProofs [rB,tP,hl,hw,u1,u2,u3,hmin,hle,hle2,k6,qQ,wP,g5]
  all_goals (repeat' split) <;> first | rfl | omega | (simp_all; done) | (simp_all; omega) | skip
 ·simp -implicitDefEqProofs [rB,tP]
theorem TO (l : List Fl) (hc : wL b9 l≤100000000) : ev LI TT 140 [.row .af 13 (l.map (bM .af))] = some (.bool (wz l),[.dead]):=by
 rw [aq (b:=Cm) (rs:=[.t 2]) (n:=1) rfl rfl]
 have u1:=Q6  l hc
 try simp at u1
 unfold wz
 cases g6 : aI (nj l) l.zipIdx <;> rw [g6] at u1
 all_goals try simp at u1
 all_goals
 simp -implicitDefEqProofs [Cm,u1]
 all_goals (repeat' split) <;> first | rfl | omega | (simp_all; done) | (simp_all; omega) | skip
theorem Tm (c : Ca) (hc : dn c≤100000000) : ev LI TT 53 [.agg (en .af c)] = some (.bool (kV c),[.dead]):=by
 rw [aq (b:=nG) (rs:=[.t 2]) (n:=1) rfl rfl]
 have hsh : bT c.aE≤dn c:=by unfold dn; omega
 have hfl:=Ag c
 unfold kV
 have u1:=TD  c.aE (by omega)
 try simp at u1
 have u2:=TO  c.bD (by omega)
 try simp at u2
 by_cases g1 : 0≤c.now
 rotate_left
 ·simp -implicitDefEqProofs [nG,u1,g1]
 by_cases g2 : c.now≤1000000
 rotate_left
 ·simp -implicitDefEqProofs [nG,u1,g1,g2]
 by_cases g4 : (c.seen.length : Int)≤1500
 rotate_left
 ·simp -implicitDefEqProofs [nG,u1,g1,g2,g4]
 by_cases g5 : (c.sent.length : Int)≤1500
 rotate_left
 ·simp -implicitDefEqProofs [nG,u1,g1,g2,g4,g5]
 generalize wz c.bD = b2 at u2
 cases b2
 ·simp -implicitDefEqProofs [nG,u1,u2,g1,g2,g4,g5]
 generalize j0 c.aE = b1 at u1
 cases b1
 all_goals
 simp -implicitDefEqProofs [nG,u1,u2,g1,g2,g4,g5]
 all_goals (repeat' split) <;> first | rfl | omega | (simp_all; done) | (simp_all; omega) | skip
end M
set_option maxHeartbeats 4000000
namespace M
open Go
theorem Lo (c : Ca) : wL bE c.aE.av≤dn c:=by unfold dn bT; omega
theorem abB {c : Ca} {x : Kp} (hx : x∈c.aE.av) : aV x.obj≤dn c:=by
 have h1:=vD hx
 have h5:=Lo c
 omega
end M
set_option maxHeartbeats 4000000
namespace M
open Go
theorem U7 (d : aW) (h1 : d.cells.length≤1073741824) (h2 : d.pending.length≤1073741824) : ev LI TT 174 [.agg (bH .af d)] = some (.agg (bH .own d),[.dead]):=by
 rw [aq (b:=Ef) (rs:=[.c 2 2 true 38]) (n:=1) rfl rfl]
 simp -implicitDefEqProofs [Ef,JD,Pq,rowAt,(by omega : d.cells.length * 16≤140737488355328),(by omega : d.pending.length * 24≤140737488355328),Eg,Jt,Eh,Ju,Jv,Jw]
 all_goals (repeat' split) <;> first | rfl | omega | (simp_all; done) | (simp_all; omega) | skip
theorem TM (d : aW) (h1 : d.cells.length≤1073741824) (h2 : d.pending.length≤1073741824) : ev LI TT 186 [.agg (bH .af d)] = some (.agg (bH .own d),[.dead]):=by
 rw [aq (b:=Cj) (rs:=[.c 2 2 true 38]) (n:=1) rfl rfl]
 have u1:=NQ d.cells h1
 try simp at u1
 have u2:=abw d.pending h2
 try simp at u2
 simp -implicitDefEqProofs [Cj,u1,u2]
 all_goals (repeat' split) <;> first | rfl | omega | (simp_all; done) | (simp_all; omega) | skip
def AH (ws : List Wr) : Prop:=∀ w∈ws,0≤w.at_∧w.at_≤19
theorem jU {d : aW} (h : cH d = true) : AH d.pending∧d.cells.length = 20∧d.pending.length≤16:=by
 simp only [cH,Bool.and_eq_true,decide_eq_true_eq] at h
 refine ⟨fun w hw=>?_,by omega,by omega⟩
 simpa [p8] using gV.1 h.1.1 w hw
def dx (d : aW) : aW:=⟨lD (fE [] true) d.cells d.pending,[]⟩
theorem Sa (d : aW) (keep : List Bool) (all : Bool) (hb : d.pending.length≤9223372036854775807) (ho : AH d.pending) (hk : keep.length≤9223372036854775807) (cs : List ag) (hinv : cs.length = 20) : aC (ai (ev LI TT) (aj TT) sj) [(1,.row .af 1 (keep.map eB)),(2,.bool all),(3,.ptr .own (bH .af d)),(6,.ptr .own [.row .own 1 [],.row .own 2 []]),(7,.ptr .own [.row .own 1 ((cs).map eS),.row .own 2 []]),(8,.int .i64 0)] = some (.exit 0,[(1,.row .af 1 (keep.map eB)),(2,.bool all),(3,.ptr .own (bH .af d)),(6,.ptr .own [.row .own 1 [],.row .own 2 []]),(7,.ptr .own [.row .own 1 (((foldI (fV (fE keep all)) 0 (d.pending) cs)).map eS),.row .own 2 []]),(8,.int .i64 (d.pending).length),(18,.bool false)]):=by
 refine gw (f:=ai (ev LI TT) (aj TT) sj) (d.pending) (fun i (cs : List ag)=>[(1,.row .af 1 (keep.map eB)),(2,.bool all),(3,.ptr .own (bH .af d)),(6,.ptr .own [.row .own 1 [],.row .own 2 []]),(7,.ptr .own [.row .own 1 ((cs).map eS),.row .own 2 []]),(8,.int .i64 i)]) (fV (fE keep all)) (fun cs=>[(1,.row .af 1 (keep.map eB)),(2,.bool all),(3,.ptr .own (bH .af d)),(6,.ptr .own [.row .own 1 [],.row .own 2 []]),(7,.ptr .own [.row .own 1 ((cs).map eS),.row .own 2 []]),(8,.int .i64 (d.pending).length),(18,.bool false)]) (fun i (cs : List ag)=>cs.length = 20) cs hinv (fun i b cs hi hl hinv=>?_) (fun i b cs hi hinv=>?_) (fun cs hinv=>?_)
 ·have hw:=aM i (by first | omega | (simp at hl; omega))
  obtain ⟨_,rfl⟩:=List.getElem?_eq_some_iff.1 hi
  have h1:=ho _ (List.getElem_mem hl)
  have h2 : (d.pending[i]).at_.toNat < cs.length:=by omega
  cases all
  ·by_cases h4 : i < keep.length
   ·cases h5 : keep[i] <;> simp -implicitDefEqProofs [sj,zH,hl,hw,h1,h2,fV,fE,h4,h5]
   ·simp -implicitDefEqProofs [sj,zH,hl,hw,h1,h2,fV,fE,h4]
  simp -implicitDefEqProofs [sj,zH,hl,hw,h1,h2,fV,fE]
 ·rw [Dd]; exact hinv
 ·simp -implicitDefEqProofs [sj,zH]
theorem Lh (d : aW) (keep : List Bool) (all : Bool) (h : cH d = true) (hk : keep.length≤9223372036854775807) : ev LI TT 177 [.agg (bH .af d),.row .af 1 (keep.map eB),.bool all] = some (.agg (bH .own (⟨lD (fE keep all) d.cells d.pending,[]⟩)),[.dead,.dead,.dead]):=by
 rw [aq (b:=Ei) (rs:=[.c 6 2 true 38]) (n:=3) rfl rfl]
 obtain ⟨h0,h1,h1'⟩:=jU h
 have h2:=Sa d keep all (by omega) h0 hk d.cells h1
 try simp at h2
 simp -implicitDefEqProofs [Ei,h1,h2,lD,JD,rowAt]
 all_goals (repeat' split) <;> first | rfl | omega | (simp_all; done) | (simp_all; omega) | skip
theorem UX (d : aW) (h : cH d = true) : ev LI TT 73 [.agg (bH .af d)] = some (.agg (bH .own (dx d)),[.dead]):=by
 rw [aq (b:=DX) (rs:=[.c 2 2 true 38]) (n:=1) rfl rfl]
 obtain ⟨h0,h1,h1'⟩:=jU h
 have h2:=vV d (by omega)
 have h3:=Lh d [] true h (by simp)
 rw [h] at h2
 try simp at h2
 try simp at h3
 simp -implicitDefEqProofs [DX,h2,h3,dx]
 all_goals (repeat' split) <;> first | rfl | omega | (simp_all; done) | (simp_all; omega) | skip
theorem QO (ws : List Wr) (hb : ws.length≤9223372036854775807) (ho : AH ws) (cs : List ag) (hinv : cs.length = 20) : aC (ai (ev LI TT) (aj TT) xj) [(0,.aA 100000 [] 0 0),(4,.aA 100000 [] 0 0),(5,.aA 100000 [] 0 0),(6,.aA 100000 [] 0 1),(7,.ref 100000 [(0,1)]),(8,.int .i64 ws.length),(9,.int .i64 0),(100000,.ptr .own [.row .own 1 ((cs).map eS),.row .own 2 (ws.map eW)])] = some (.exit 0,[(0,.aA 100000 [] 0 0),(4,.aA 100000 [] 0 0),(5,.aA 100000 [] 0 0),(6,.aA 100000 [] 0 1),(7,.ref 100000 [(0,1)]),(8,.int .i64 ws.length),(9,.int .i64 (ws).length),(10,.bool false),(100000,.ptr .own [.row .own 1 (((foldI (fV (fE [] true)) 0 (ws) cs)).map eS),.row .own 2 (ws.map eW)])]):=by
 refine gw (f:=ai (ev LI TT) (aj TT) xj) (ws) (fun i (cs : List ag)=>[(0,.aA 100000 [] 0 0),(4,.aA 100000 [] 0 0),(5,.aA 100000 [] 0 0),(6,.aA 100000 [] 0 1),(7,.ref 100000 [(0,1)]),(8,.int .i64 ws.length),(9,.int .i64 i),(100000,.ptr .own [.row .own 1 ((cs).map eS),.row .own 2 (ws.map eW)])]) (fV (fE [] true)) (fun cs=>[(0,.aA 100000 [] 0 0),(4,.aA 100000 [] 0 0),(5,.aA 100000 [] 0 0),(6,.aA 100000 [] 0 1),(7,.ref 100000 [(0,1)]),(8,.int .i64 ws.length),(9,.int .i64 (ws).length),(10,.bool false),(100000,.ptr .own [.row .own 1 ((cs).map eS),.row .own 2 (ws.map eW)])]) (fun i (cs : List ag)=>cs.length = 20) cs hinv (fun i b cs hi hl hinv=>?_) (fun i b cs hi hinv=>?_) (fun cs hinv=>?_)
 ·have hw:=aM i (by first | omega | (simp at hl; omega))
  obtain ⟨_,rfl⟩:=List.getElem?_eq_some_iff.1 hi
  have h1:=ho _ (List.getElem_mem hl)
  have h2 : (ws[i]).at_.toNat < cs.length:=by omega
  simp -implicitDefEqProofs [xj,Hp,hl,hw,h1,h2,fV,fE]
 ·rw [Dd]; exact hinv
 ·simp -implicitDefEqProofs [xj,Hp]
theorem Ts (d : aW) (h : cH d = true) : ev LI TT 187 [.ptr .own (bH .own d)] = some (.au [],[.ptr .own (bH .own (dx d))]):=by
 rw [aq (b:=BW) (rs:=[]) (n:=1) rfl rfl]
 obtain ⟨h0,h1,h1'⟩:=jU h
 have h2:=QO d.pending (by omega) h0 d.cells h1
 try simp at h2
 simp -implicitDefEqProofs [BW,h1,h2,lD,dx]
 all_goals (repeat' split) <;> first | rfl | omega | (simp_all; done) | (simp_all; omega) | skip
theorem Mv {d : aW} (h : cH d = true) : cH (dx d) = true:=by
 obtain ⟨h0,h1,h1'⟩:=jU h
 have:=NV (fE [] true) d.cells d.pending
 unfold cH dx
 simp only [this,h1]
 rfl
def uK (a : Int) : Int:=if a = 19 then 5 else a + 1
theorem U8 (a : Int) (h : 5≤a∧a≤19) : ev LI TT 176 [.int .i64 a] = some (.int .i64 (uK a),[.dead]):=by
 rw [aq (b:=Ek) (rs:=[.t 2]) (n:=1) rfl rfl]
 unfold uK
 have hw : IntKind.i64.wrap (a + 1) = a + 1:=bz (by omega) (by omega)
 simp -implicitDefEqProofs [Ek,hw]
 all_goals (repeat' split) <;> first | rfl | omega | (simp_all; done) | (simp_all; omega) | skip
theorem TL (a : Int) (h : 5≤a∧a≤19) : ev LI TT 184 [.int .i64 a] = some (.int .i64 (uK a),[.dead]):=by
 rw [aq (b:=xI) (rs:=[.t 2]) (n:=1) rfl rfl]
 unfold uK
 have hw : IntKind.i64.wrap (a + 1) = a + 1:=bz (by omega) (by omega)
 by_cases g : a = 19
 ·subst g
  have ZZ : IntKind.i64.wrap 20 = 20:=bz (by omega) (by omega)
  simp -implicitDefEqProofs [xI,ZZ]
 have g2 : ¬ a + 1 = 20:=by omega
 simp -implicitDefEqProofs [xI,hw,g,g2]
 all_goals (repeat' split) <;> first | rfl | omega | (simp_all; done) | (simp_all; omega) | skip
def iS (a b : Ob) : Bool:=decide (a.path = b.path) && decide (a.names = b.names) && decide (a.values = b.values)
theorem Vb (a : Ob) (b : Ob) (ha : aV a≤1073741824) (hb : aV b≤1073741824) : ev LI TT 175 [.agg (bn .af a),.agg (bn .af b)] = some (.bool (iS a b),[.dead,.dead]):=by
 rw [aq (b:=vb) (rs:=[.t 4]) (n:=2) rfl rfl]
 have hw : aV a = a.path.length + wL wS a.names + wL wS a.values + bp a.resp:=rfl
 have eE : aV b = b.path.length + wL wS b.names + wL wS b.values + bp b.resp:=rfl
 have l1:=aY (w:=wS) a.names
 have l2:=aY (w:=wS) a.values
 have l3:=aY (w:=wS) b.names
 have l4:=aY (w:=wS) b.values
 unfold iS
 have u1:=FV  a.names b.names (by omega) (by omega)
 try simp at u1
 have u2:=FV  a.values b.values (by omega) (by omega)
 try simp at u2
 by_cases g : a.path = b.path
 rotate_left
 ·simp -implicitDefEqProofs [vb,eq_false g]
 by_cases g2 : a.names = b.names
 rotate_left
 ·rw [decide_eq_false g2] at u1; simp -implicitDefEqProofs [vb,eq_true g,u1,eq_false g2]
 rw [decide_eq_true g2] at u1
 simp -implicitDefEqProofs [vb,u1,u2,eq_true g,eq_true g2]
 all_goals (repeat' split) <;> first | rfl | omega | (simp_all; done) | (simp_all; omega) | skip
theorem K2 (a : Ob) (b : Ob) (ha : aV a≤1073741824) (hb : aV b≤1073741824) : ev LI TT 183 [.agg (bn .af a),.agg (bn .af b)] = some (.bool (iS a b),[.dead,.dead]):=by
 rw [aq (b:=tQ) (rs:=[.t 4]) (n:=2) rfl rfl]
 have hw : aV a = a.path.length + wL wS a.names + wL wS a.values + bp a.resp:=rfl
 have eE : aV b = b.path.length + wL wS b.names + wL wS b.values + bp b.resp:=rfl
 have l1:=aY (w:=wS) a.names
 have l2:=aY (w:=wS) a.values
 unfold iS
 have u1:=FX  a.names b.names (by omega)
 try simp at u1
 have u2:=FX  a.values b.values (by omega)
 try simp at u2
 by_cases g : a.path = b.path
 rotate_left
 ·simp -implicitDefEqProofs [tQ,eq_false g]
 by_cases g2 : a.names = b.names
 rotate_left
 ·rw [decide_eq_false g2] at u1; simp -implicitDefEqProofs [tQ,eq_true g,u1,eq_false g2]
 rw [decide_eq_true g2] at u1
 simp -implicitDefEqProofs [tQ,u1,u2,eq_true g,eq_true g2]
 all_goals (repeat' split) <;> first | rfl | omega | (simp_all; done) | (simp_all; omega) | skip
end M
namespace M
open Go
def gP (g : Nat×Nat) (b : UInt8) : Nat×Nat:=((g.1 + b.toNat) % 65521,(g.2 + (g.1 + b.toNat) % 65521) % 65521)
theorem EH (g : Nat×Nat) (b : UInt8) : (gP g b).1 < 65521∧(gP g b).2 < 65521:=⟨Nat.mod_lt _ (by decide),Nat.mod_lt _ (by decide)⟩
theorem PK (g : Nat×Nat) (b : UInt8) (h : g.1 < 65521∧g.2 < 65521) : (IntKind.i64.wrap (↑g.1 + IntKind.i64.wrap ↑b.toNat)).tmod 65521 = ↑(gP g b).1 ∧
  (IntKind.i64.wrap (↑g.2 + (IntKind.i64.wrap (↑g.1 + IntKind.i64.wrap ↑b.toNat)).tmod 65521)).tmod 65521 = ↑(gP g b).2:=by
 have hb:=b.toNat_lt
 have e1 : IntKind.i64.wrap (↑g.1 + IntKind.i64.wrap ↑b.toNat) = ((g.1 + b.toNat : Nat) : Int):=by rw [bz (n:=(b.toNat : Int)) (by omega) (by omega),bz (by omega) (by omega)]; omega
 have e2 : (((g.1 + b.toNat : Nat) : Int)).tmod 65521 = ↑(gP g b).1:=by rw [Int.tmod_eq_emod_of_nonneg (by omega)]; unfold gP; omega
 have h1:=(EH g b).1
 have e3 : IntKind.i64.wrap (↑g.2 + (↑(gP g b).1 : Int)) = ((g.2 + (gP g b).1 : Nat) : Int):=by rw [bz (by omega) (by omega)]; omega
 rw [e1,e2,e3]
 refine ⟨rfl,?_⟩
 rw [Int.tmod_eq_emod_of_nonneg (by omega)]
 unfold gP
 omega
def gO (s : ag) : Nat×Nat:=foldI (fun _ g b=>gP g b) 0 s (1,0)
theorem Mx {γ β : Type} {go : Nat→γ→β→γ} {I : γ→Prop} (h : ∀ i g b,I g→I (go i g b)) : ∀ (l : List β) (i : Nat) (g : γ),I g→I (foldI go i l g)
 | [],_,_,hg=>hg
 | b :: l,i,g,hg=>Mx h l (i + 1) _ (h i g b hg)
theorem JJ (s : ag) : (gO s).1 < 65521∧(gO s).2 < 65521:=Mx (I:=fun g=>g.1 < 65521∧g.2 < 65521) (fun _ g b _=>EH g b) s 0 _ (by simp)
def lV (s : ag) : Nat:=65521 * (gO s).2 + (gO s).1
theorem EG (s : ag) : lV s < 10 ^ 10:=by have:=JJ s; unfold lV; omega
theorem R3 (s : ag) (hb : s.length≤9223372036854775807) (g : Nat×Nat) (hinv : g.1 < 65521∧g.2 < 65521) : aC (ai (ev LI TT) (aj TT) zx) [(0,.str ⟨s.toArray⟩),(3,.int .i64 (g).1),(4,.int .i64 (g).2),(5,.int .i64 0)] = some (.exit 0,[(0,.str ⟨s.toArray⟩),(3,.int .i64 ((foldI (fun _ g b=>gP g b) 0 (s) g)).1),(4,.int .i64 ((foldI (fun _ g b=>gP g b) 0 (s) g)).2),(5,.int .i64 (s).length),(9,.bool false)]):=by
 refine gw (f:=ai (ev LI TT) (aj TT) zx) (s) (fun i (g : Nat×Nat)=>[(0,.str ⟨s.toArray⟩),(3,.int .i64 (g).1),(4,.int .i64 (g).2),(5,.int .i64 i)]) (fun _ g b=>gP g b) (fun g=>[(0,.str ⟨s.toArray⟩),(3,.int .i64 (g).1),(4,.int .i64 (g).2),(5,.int .i64 (s).length),(9,.bool false)]) (fun i (g : Nat×Nat)=>g.1 < 65521∧g.2 < 65521) g hinv (fun i b g hi hl hinv=>?_) (fun i b g hi hinv=>?_) (fun g hinv=>?_)
 ·have hw:=aM i (by first | omega | (simp at hl; omega))
  obtain ⟨_,rfl⟩:=List.getElem?_eq_some_iff.1 hi
  skip
  simp -implicitDefEqProofs [zx,Jm,hl,hw]
  exact PK g s[i] hinv
 ·exact EH _ _
 ·simp -implicitDefEqProofs [zx,Jm]
theorem U6 (s : ag) (hb : s.length≤9223372036854775807) : ev LI TT 359 [.str ⟨s.toArray⟩] = some (.int .i64 (lV s),[.dead]):=by
 rw [aq (b:=Eb) (rs:=[.t 2]) (n:=1) rfl rfl]
 have h:=R3  s hb (1,0) (by simp)
 have h2:=JJ s
 have e1 : IntKind.i64.wrap (65521 * ((gO s).2 : Int)) = 65521 * (gO s).2:=bz (by omega) (by omega)
 have e2 : IntKind.i64.wrap (65521 * ((gO s).2 : Int) + (gO s).1) = 65521 * (gO s).2 + (gO s).1:=bz (by omega) (by omega)
 rw [show foldI (fun _ g b=>gP g b) 0 s (1,0) = gO s from rfl] at h
 simp at h
 simp -implicitDefEqProofs [Eb,h,e1,e2,lV]
 all_goals (repeat' split) <;> first | rfl | omega | (simp_all; done) | (simp_all; omega) | skip
theorem Q1 (s : ag) (hb : s.length≤9223372036854775807) (g : Nat×Nat) (hinv : g.1 < 65521∧g.2 < 65521) : aC (ai (ev LI TT) (aj TT) xE) [(0,.str ⟨s.toArray⟩),(3,.int .i64 (g).1),(4,.int .i64 (g).2),(5,.int .i64 0)] = some (.exit 0,[(0,.str ⟨s.toArray⟩),(3,.int .i64 ((foldI (fun _ g b=>gP g b) 0 (s) g)).1),(4,.int .i64 ((foldI (fun _ g b=>gP g b) 0 (s) g)).2),(5,.int .i64 (s).length),(9,.bool false)]):=by
 refine gw (f:=ai (ev LI TT) (aj TT) xE) (s) (fun i (g : Nat×Nat)=>[(0,.str ⟨s.toArray⟩),(3,.int .i64 (g).1),(4,.int .i64 (g).2),(5,.int .i64 i)]) (fun _ g b=>gP g b) (fun g=>[(0,.str ⟨s.toArray⟩),(3,.int .i64 (g).1),(4,.int .i64 (g).2),(5,.int .i64 (s).length),(9,.bool false)]) (fun i (g : Nat×Nat)=>g.1 < 65521∧g.2 < 65521) g hinv (fun i b g hi hl hinv=>?_) (fun i b g hi hinv=>?_) (fun g hinv=>?_)
 ·have hw:=aM i (by first | omega | (simp at hl; omega))
  obtain ⟨_,rfl⟩:=List.getElem?_eq_some_iff.1 hi
  skip
  simp -implicitDefEqProofs [xE,Hx,hl,hw]
  exact PK g s[i] hinv
 ·exact EH _ _
 ·simp -implicitDefEqProofs [xE,Hx]
theorem TK (s : ag) (hb : s.length≤9223372036854775807) : ev LI TT 417 [.str ⟨s.toArray⟩] = some (.int .i64 (lV s),[.dead]):=by
 rw [aq (b:=Cd) (rs:=[.t 2]) (n:=1) rfl rfl]
 have h:=Q1  s hb (1,0) (by simp)
 have h2:=JJ s
 have e1 : IntKind.i64.wrap (65521 * ((gO s).2 : Int)) = 65521 * (gO s).2:=bz (by omega) (by omega)
 have e2 : IntKind.i64.wrap (65521 * ((gO s).2 : Int) + (gO s).1) = 65521 * (gO s).2 + (gO s).1:=bz (by omega) (by omega)
 rw [show foldI (fun _ g b=>gP g b) 0 s (1,0) = gO s from rfl] at h
 simp at h
 simp -implicitDefEqProofs [Cd,h,e1,e2,lV]
 all_goals (repeat' split) <;> first | rfl | omega | (simp_all; done) | (simp_all; omega) | skip
theorem QK (n : Nat) (out : ag) (hn : out.length + n≤9223372036854775807) : aC (ai (ev LI TT) (aj TT) Jx) [(0,.int .i64 n),(3,.str ⟨out.toArray⟩)] = some (.exit 0,[(0,.int .i64 0),(3,.str ⟨(nS n out).toArray⟩),(7,.bool false)]):=by
 have hs : ∀ s,ai (ev LI TT) (aj TT) Jx s = ai (ev LI TT) (aj TT) Ej s:=fun _=>rfl
 induction n using Nat.strongRecOn generalizing out with
 | ind n ih =>
  rw [dy,hs]
  unfold nS
  by_cases h : n = 0
  ·subst h
   simp -implicitDefEqProofs [Ej]
  ·have hp : 0 < n:=by omega
   have:=ih (n / 10) (by omega) (UInt8.ofNat (48 + n % 10) :: out) (by rw [List.length_cons]; omega)
   have e1 : ((n : Int)).tmod 10 = ((n % 10 : Nat) : Int):=by rw [Int.tmod_eq_emod_of_nonneg (by omega)]; omega
   have e4 : ((n : Int)).tdiv 10 = ((n / 10 : Nat) : Int):=by rw [Int.tdiv_eq_ediv_of_nonneg (by omega)]; omega
   have e2 : IntKind.i64.wrap (48 + ((n % 10 : Nat) : Int)) = ((48 + n % 10 : Nat) : Int):=by rw [bz (by omega) (by omega)]; omega
   have e3 : IntKind.u8.wrap ((48 + n % 10 : Nat) : Int) = ((48 + n % 10 : Nat) : Int):=J3 (by omega) (by omega)
   have e5:=P6 (48 + n % 10) (by omega)
   have e6 : IntKind.i64.wrap ((n / 10 : Nat) : Int) = ((n / 10 : Nat) : Int):=bz (by omega) (by omega)
   simp only [h,dite_false]
   rw [← this]
   simp -implicitDefEqProofs [Ej,hp,uB,e1,e2,e3,e4,e5,e6,-Int.natCast_emod,-Int.natCast_ediv,-Int.natCast_add,-UInt8.ofNat_add,gN,(by omega : 1 + out.length≤9223372036854775807)]
theorem FT (n : Nat) (hk : n≤9223372036854775800) : ev LI TT 358 [.int .i64 (n : Int)] = some (.str ⟨(aT n).toArray⟩,[.dead]):=by
 rw [aq (b:=zI) (rs:=[.t 2]) (n:=1) rfl rfl]
 by_cases h : n = 0
 ·subst h; simp -implicitDefEqProofs [zI,A8]
 have h1:=QK  n [] (by simp; omega)
 rw [Oe n [] h,List.append_nil] at h1
 simp -implicitDefEqProofs [zI,h,h1]
 all_goals (repeat' split) <;> first | rfl | omega | (simp_all; done) | (simp_all; omega) | skip
def IW (n : Nat) (b : ag) : ag:=aT (lV (aT n ++ 32 :: (aT b.length ++ 10 :: b))) ++ 32 :: (aT n ++ 32 :: (aT b.length ++ 10 :: b))
def gx (n : Int) (b : ag) : ag:=if 1≤n∧n≤100000∧b.length≤2000 then IW n.toNat b else []
theorem U2 (n : Int) (b : ag) (hb : b.length≤9223372036854775807) : ev LI TT 273 [.int .i64 n,.str ⟨b.toArray⟩] = some (.str ⟨(gx n b).toArray⟩,[.dead,.dead]):=by
 rw [aq (b:=uZ) (rs:=[.t 4]) (n:=2) rfl rfl]
 by_cases h1 : ¬ (1≤n∧n≤100000)
 ·have h1' : ¬ (1≤n∧n≤100000∧b.length≤2000):=by omega
  simp -implicitDefEqProofs [uZ,h1,gx,h1']
 by_cases h2 : 2000 < b.length
 ·have h1' : ¬ (1≤n∧n≤100000∧b.length≤2000):=by omega
  have fP : (2000 : Int) < b.length:=by omega
  simp -implicitDefEqProofs [uZ,h1,gx,h1',h2,fP]
 obtain ⟨m,rfl⟩ : ∃ m : Nat,n = m:=⟨n.toNat,by omega⟩
 have l1:=oP 5 m (by omega)
 have l2:=oP 5 b.length (by omega)
 have l3:=oP 17 (lV (aT m ++ 32 :: (aT b.length ++ 10 :: b))) (Nat.lt_trans (EG _) (by decide))
 have k1:=FT  m (by omega)
 have k2:=FT  b.length (by omega)
 have k4:=FT  (lV (aT m ++ 32 :: (aT b.length ++ 10 :: b))) (by have:=EG (aT m ++ 32 :: (aT b.length ++ 10 :: b)); omega)
 have k3:=U6  (aT m ++ 32 :: (aT b.length ++ 10 :: b)) (by simp; omega)
 have fP : ¬ (2000 < (b.length : Int)):=by omega
 have h3 : 1≤m∧m≤100000:=by omega
 have h4 : b.length≤2000:=by omega
 simp -implicitDefEqProofs [uZ,fP,h3,h4,k1,k2,k3,k4,gN,gx,IW]
 repeat rw [if_pos (by omega)]
theorem TB (n : Int) (b : ag) (hb : b.length≤9223372036854775807) : ev LI TT 364 [.int .i64 n,.str ⟨b.toArray⟩] = some (.str ⟨(gx n b).toArray⟩,[.dead,.dead]):=by
 rw [aq (b:=tJ) (rs:=[.t 4]) (n:=2) rfl rfl]
 by_cases h1 : ¬ (1≤n∧n≤100000)
 ·have h1' : ¬ (1≤n∧n≤100000∧b.length≤2000):=by omega
  simp -implicitDefEqProofs [tJ,h1,gx,h1']
 by_cases h2 : 2000 < b.length
 ·have h1' : ¬ (1≤n∧n≤100000∧b.length≤2000):=by omega
  have fP : (2000 : Int) < b.length:=by omega
  simp -implicitDefEqProofs [tJ,h1,gx,h1',h2,fP]
 obtain ⟨m,rfl⟩ : ∃ m : Nat,n = m:=⟨n.toNat,by omega⟩
 have l1:=oP 5 m (by omega)
 have l2:=oP 5 b.length (by omega)
 have l3:=oP 17 (lV (aT m ++ 32 :: (aT b.length ++ 10 :: b))) (Nat.lt_trans (EG _) (by decide))
 have k1:=qE m (by omega)
 have k2:=qE b.length (by omega)
 have k4:=qE (lV (aT m ++ 32 :: (aT b.length ++ 10 :: b))) (by have:=EG (aT m ++ 32 :: (aT b.length ++ 10 :: b)); omega)
 have k3:=TK  (aT m ++ 32 :: (aT b.length ++ 10 :: b)) (by simp; omega)
 have fP : ¬ (2000 < (b.length : Int)):=by omega
 have h3 : 1≤m∧m≤100000:=by omega
 have h4 : b.length≤2000:=by omega
 simp -implicitDefEqProofs [tJ,fP,h3,h4,k1,k2,k3,k4,gN,gx,IW]
 repeat rw [if_pos (by omega)]
end M
namespace M
open Go
theorem Sn (s : ag) (hb : s.length≤1073741824) (g : List ag×Nat) (hinv : g.2≤0∧g.1.length≤0) : aC (ai (ev LI TT) (aj TT) sw) [(0,.str ⟨s.toArray⟩),(3,.row .own 1 ((g).1.map eS)),(4,.int .i64 ((g).2 : Nat)),(5,.int .i64 0)] = some (.exit 0,[(0,.str ⟨s.toArray⟩),(3,.row .own 1 (((foldI (e9 32 (fun w=>[w]) s) 0 (s.map some ++ [none]) g)).1.map eS)),(4,.int .i64 (((foldI (e9 32 (fun w=>[w]) s) 0 (s.map some ++ [none]) g)).2 : Nat)),(5,.int .i64 (s.map some ++ [none]).length),(10,.bool false)]):=by
 refine gw (f:=ai (ev LI TT) (aj TT) sw) (s.map some ++ [none]) (fun i (g : List ag×Nat)=>[(0,.str ⟨s.toArray⟩),(3,.row .own 1 ((g).1.map eS)),(4,.int .i64 ((g).2 : Nat)),(5,.int .i64 i)]) (e9 32 (fun w=>[w]) s) (fun g=>[(0,.str ⟨s.toArray⟩),(3,.row .own 1 ((g).1.map eS)),(4,.int .i64 ((g).2 : Nat)),(5,.int .i64 (s.map some ++ [none]).length),(10,.bool false)]) (fun i (g : List ag×Nat)=>g.2≤i∧g.1.length≤i) g hinv (fun i b g hi hl hinv=>?_) (fun i b g hi hinv=>?_) (fun g hinv=>?_)
 ·have hw:=aM i (by first | omega | (simp at hl; omega))
  obtain ⟨_,rfl⟩:=List.getElem?_eq_some_iff.1 hi
  have hlz : (g.1.length + 1) * 16≤140737488355328:=by simp at hl; omega
  have wD : ∀ b : UInt8,((b.toNat : Int) = 32)↔b = 32:=fun b=>⟨fun h=>UInt8.toNat_inj.1 (by have e : (32 : UInt8).toNat = 32:=rfl; omega),fun h=>by subst h; rfl⟩
  rcases OK s i hl with ⟨hi',e⟩ | ⟨rfl,e⟩
  ·rw [e]
   have k1 : (i : Int)≤s.length:=by omega
   have k2 : i≤s.length:=by omega
   have k3 : ¬ i = s.length:=by omega
   have k4 : ¬ (i : Int) = s.length:=by omega
   by_cases hx : s[i] = 32
   rotate_left
   ·have hx':=mt (wD s[i]).1 hx
    simp -implicitDefEqProofs [sw,zS,k1,k2,k3,k4,hi',hw,e9,hx,hx']
   have hx':=(wD s[i]).2 hx
   have e3 : (s.take i).drop g.2 = (s.drop g.2).take (i - g.2):=List.drop_take ..
   simp -implicitDefEqProofs [sw,zS,k1,k2,k3,k4,hi',hw,e9,eq_true hx,hx',hinv,Lib.extract_mk,e3,cQ,hlz]
  rw [e]
  have e3 : (s.take s.length).drop g.2 = (s.drop g.2).take (s.length - g.2):=List.drop_take ..
  simp only [e9,e3]
  simp -implicitDefEqProofs [sw,zS,hl,hw,hinv,Lib.extract_mk,cQ,hlz]
 ·exact MN 32 (fun w=>[w]) (fun _=>Nat.le_refl 1) s i g b hinv
 ·have GU : ¬ ((s.length : Int) + 1≤s.length):=by omega
  simp -implicitDefEqProofs [sw,zS,GU]
theorem sX (s : ag) (hb : s.length≤1073741824) : ev LI TT 272 [.str ⟨s.toArray⟩] = some (.row .own 1 ((bg 32 s).map eS),[.dead]):=by
 rw [aq (b:=Eu) (rs:=[.t 2]) (n:=1) rfl rfl]
 have u1:=Sn s hb ([],0) ⟨by omega,by simp⟩
 rw [MA,List.flatMap_singleton' (bg 32 s)] at u1
 simp at u1
 simp -implicitDefEqProofs [Eu,u1]
 all_goals (repeat' split) <;> first | rfl | omega | (simp_all; done) | (simp_all; omega) | skip
theorem LQ (c : UInt8) : ∀ (s : ag) (k : Nat),(cC (fun b=>decide ((b.toNat : Int) = c.toNat)) k s).map (fun x=>(x.1 - k)) = (cr c s).map fun p=>p.1.length
 | [],k=>rfl
 | b :: s,k=>by
  have hb : ((b.toNat : Int) = c.toNat)↔b = c:=⟨fun h=>UInt8.toNat_inj.1 (by omega),fun h=>by subst h; rfl⟩
  unfold cC cr
  by_cases h : b = c
  ·simp [hb,h]
  ·have ih:=LQ c s (k + 1)
   simp only [hb,h,decide_false,Bool.false_eq_true,if_false]
   cases hf : cC (fun b=>decide ((b.toNat : Int) = c.toNat)) (k + 1) s with
   | none =>
    rw [hf] at ih
    cases hc : cr c s with
    | none=>rfl
    | some p=>rw [hc] at ih; simp at ih
   | some x =>
    rw [hf] at ih
    cases hc : cr c s with
    | none=>rw [hc] at ih; simp at ih
    | some p =>
     rw [hc] at ih
     have hx:=(oV (i:=x.1) (b:=x.2) hf).1
     simp at ih ⊢
     omega
theorem A0 {c : UInt8} : ∀ {s : ag} {p : ag×ag},cr c s = some p→s = p.1 ++ c :: p.2
 | [],p,h=>by cases h
 | b :: s,p,h=>by
  unfold cr at h
  split at h
  ·rename_i hb
   cases h
   simp [hb]
  ·cases hc : cr c s with
   | none=>rw [hc] at h; cases h
   | some q =>
    rw [hc] at h
    cases h
    simp [← A0 hc]
theorem R9 (s : ag) (k : Nat) (hk : k≤s.length) (hb : s.length≤1073741824) : aC (ai (ev LI TT) (aj TT) zF) [(0,.str ⟨s.toArray⟩),(1,.int .i64 (k : Nat)),(6,.int .i64 ((k + 0 : Nat) : Int))] = (cC (fun b=>decide ((b.toNat : Int) = (10 : UInt8).toNat)) 0 (s.drop k)).elim (some (.exit 0,[(0,.str ⟨s.toArray⟩),(1,.int .i64 (k : Nat)),(6,.int .i64 ((k + (s.drop k).length : Nat) : Int)),(11,.bool false)])) fun x=>some (.ret,(fun (i : Nat) b=>[(4,.str ⟨((s.drop k).take i).toArray⟩),(5,.int .i64 ((k + i + 1 : Nat) : Int))]) x.1 x.2):=by
 refine pT (f:=ai (ev LI TT) (aj TT) zF) (s.drop k) (fun i=>[(0,.str ⟨s.toArray⟩),(1,.int .i64 (k : Nat)),(6,.int .i64 ((k + i : Nat) : Int))]) (fun b=>decide ((b.toNat : Int) = (10 : UInt8).toNat)) (fun (i : Nat) b=>[(4,.str ⟨((s.drop k).take i).toArray⟩),(5,.int .i64 ((k + i + 1 : Nat) : Int))]) _ (fun i b hi hl=>?_) ?_
 ·have hw:=aM i (by simp at hl; omega)
  obtain ⟨_,rfl⟩:=List.getElem?_eq_some_iff.1 hi
  simp at hl
  have h1 : k + i < s.length:=by omega
  have h2:=aM (k + i) (by omega)
  have h3 : ((k + i : Nat) : Int) < s.length:=by omega
  have h4 : (10 : UInt8).toNat = 10:=rfl
  have h5 : (k : Int)≤((k + i : Nat) : Int):=by omega
  have h6 : ((k + i : Nat) : Int)≤s.length:=by omega
  simp at h2 h3 h5 h6
  have h7 : ((k : Int) + (i : Int)).toNat = k + i:=by omega
  have h8 : (0 : Int)≤(k : Int) + (i : Int):=by omega
  have h9 : (s.take (k + i)).drop k = (s.drop k).take i:=by rw [List.drop_take]; congr 1; omega
  simp -implicitDefEqProofs [zF,Js,hl,hw,h1,h2,h3,h4,h5,h6,h7,h8,h9,Lib.extract_mk]
  all_goals (repeat' split) <;> first | rfl | omega | (simp_all; done) | (simp_all; omega) | skip
 ·have hz : k + (s.length - k) = s.length:=by omega
  have eH : (k : Int) + ((s.length - k : Nat) : Int) = s.length:=by omega
  simp -implicitDefEqProofs [zF,Js,hz,eH]
def uz (s : ag) (k : Nat) : Int:=match cr 10 (s.drop k) with
 | some p=>((s.length - p.2.length : Nat) : Int)
 | none=>-1
def uA (s : ag) (k : Nat) : ag:=match cr 10 (s.drop k) with
 | some p=>p.1
 | none=>[]
theorem AQ (s : ag) (k : Nat) (hk : k≤s.length) (hb : s.length≤1073741824) : ev LI TT 271 [.str ⟨s.toArray⟩,.int .i64 (k : Int)] = some (.au [.str ⟨(uA s k).toArray⟩,.int .i64 (uz s k)],[.dead,.dead]):=by
 rw [aq (b:=zG) (rs:=[.t 4,.t 5]) (n:=2) rfl rfl]
 have hc:=LQ 10 (s.drop k) 0
 unfold uA uz
 have u1:=R9  s k hk hb
 try simp at u1
 cases g : cC (fun b : UInt8=>decide ((b.toNat : Int) = 10)) 0 (s.drop k) with
 | none =>
  have h4 : (10 : UInt8).toNat = 10:=rfl
  rw [h4] at hc
  simp only [Int.cast_ofNat_Int] at hc
  rw [g] at u1 hc
  cases hq : cr 10 (s.drop k) with
  | some p=>rw [hq] at hc; simp at hc
  | none=>simp at u1; simp -implicitDefEqProofs [zG,u1]
 | some x =>
 have h4 : (10 : UInt8).toNat = 10:=rfl
 rw [h4] at hc
 simp only [Int.cast_ofNat_Int] at hc
 rw [g] at u1 hc
 cases hq : cr 10 (s.drop k) with
 | none=>rw [hq] at hc; simp at hc
 | some p =>
 rw [hq] at hc
 have he:=A0 hq
 have hx : x.1 = p.1.length:=by simpa using hc
 have ht : (s.drop k).take x.1 = p.1:=by rw [hx,he]; simp
 have hl:=congrArg List.length he
 simp at hl
 have hn : ((s.length - p.2.length : Nat) : Int) = ((k + x.1 + 1 : Nat) : Int):=by omega
 simp only [Option.elim,ht] at u1
 try simp at u1
 simp -implicitDefEqProofs [zG,u1,hn]
 all_goals (repeat' split) <;> first | rfl | omega | (simp_all; done) | (simp_all; omega) | skip
theorem qN {s : ag} {p : ag×ag} (h : cr 10 s = some p) : p.2.length < s.length∧s.drop (s.length - p.2.length) = p.2∧p.1.length < s.length:=by
 have he:=A0 h
 have hl:=congrArg List.length he
 simp at hl
 refine ⟨by omega,?_,by omega⟩
 have : s.length - p.2.length = (p.1 ++ [10]).length:=by simp; omega
 rw [this,he]
 have e : p.1 ++ 10 :: p.2 = (p.1 ++ [10]) ++ p.2:=by simp
 rw [e,List.drop_left]
end M
namespace M
open Go
def cg (s : ag) : Int×ag×Bool:=match cr 10 s with
 | some (l,b)=>match bg 32 l with
  | [_,w,_]=>if gx ((aZ w).getD 0 : Nat) b = s then ((((aZ w).getD 0 : Nat) : Int),b,true) else (0,[],false)
  | _=>(0,[],false)
 | none=>(0,[],false)
theorem Lc (s : ag) (hb : s.length≤1073741824) : ev LI TT 168 [.str ⟨s.toArray⟩] = some (.au [.int .i64 ((cg s).1),.str ⟨((cg s).2.1).toArray⟩,.bool ((cg s).2.2)],[.dead]):=by
 rw [aq (b:=n9) (rs:=[.t 2,.t 3,.t 4]) (n:=1) rfl rfl]
 have u1:=AQ s 0 (by omega) hb
 simp only [uA,uz,List.drop_zero] at u1
 unfold cg
 cases hc : cr 10 s with
 | none =>
  rw [hc] at u1
  have u2:=sX [] (by simp)
  simp at u1 u2
  simp -implicitDefEqProofs [n9,u1,u2]
 | some p =>
 obtain ⟨l,b⟩:=p
 rw [hc] at u1
 have hd:=qN hc
 simp only at hd
 obtain ⟨d1,d2,d3⟩:=hd
 have u2:=sX l (by omega)
 have d4 : ¬ (((s.length - b.length : Nat) : Int) < 0):=by omega
 have d5 : s.length - b.length≤s.length:=by omega
 have d6 : ¬ s = []:=by rintro rfl; simp at d1
 have hm:=mU 32 l
 simp only at u1
 generalize s.length - b.length = e at u1 d2 d4 d5
 have d7 : (e : Int)≤s.length:=by omega
 rcases hw : bg 32 l with _ | ⟨w0,_ | ⟨w1,_ | ⟨w2,_ | ⟨w3,ws⟩⟩⟩⟩
 ·exact absurd hw (vq 32 l)
 ·rw [hw] at u2; simp at u1 u2; simp -implicitDefEqProofs [n9,u1,u2,hw,d4]
 ·rw [hw] at u2; simp at u1 u2; simp -implicitDefEqProofs [n9,u1,u2,hw,d4]
 rotate_left
 ·rw [hw] at u2
  have hn : ¬ ((ws.length : Int) + 1 + 1 + 1 + 1 = 3):=by omega
  simp at u1 u2; simp -implicitDefEqProofs [n9,u1,u2,hw,d4,hn]
 have hw1:=hm w1 (by rw [hw]; simp)
 rw [hw] at u2
 have u3:=sV w1 (by omega)
 have u4:=U2 ((aZ w1).getD 0 : Nat) b (by omega)
 simp at u1 u2 u3
 obtain ⟨n,hn⟩ : ∃ n,(aZ w1).getD 0 = n:=⟨_,rfl⟩
 rw [hn] at u3 u4
 have d8 : s.length - e = b.length:=by rw [← d2]; simp
 by_cases g : gx (n : Int) b = s
 ·simp -implicitDefEqProofs [n9,u1,u2,hw,u3,u4,d2,d4,d5,d6,d7,d8,hn,eq_true g,Lib.extract_mk]
 simp -implicitDefEqProofs [n9,u1,u2,hw,u3,u4,d2,d4,d5,d6,d7,d8,hn,eq_false g,Lib.extract_mk]
 all_goals (repeat' split) <;> first | rfl | omega | (simp_all; done) | (simp_all; omega) | skip
theorem KR (s : ag) (hb : s.length≤1073741824) : ev LI TT 277 [.str ⟨s.toArray⟩] = some (.au [.int .i64 ((cg s).1),.str ⟨((cg s).2.1).toArray⟩,.bool ((cg s).2.2)],[.dead]):=by
 rw [aq (b:=lp) (rs:=[.t 2,.t 3,.t 4]) (n:=1) rfl rfl]
 have u1:=sY s [10] (by omega)
 have ec:=A6 10 s
 unfold cg
 cases hc : cr 10 s with
 | none =>
  rw [hc] at ec
  have u2:=qF s 32 (by omega)
  simp only at ec
  rw [ec] at u1
  simp at u1 u2
  simp -implicitDefEqProofs [lp,u1,u2]
 | some p =>
 obtain ⟨l,b⟩:=p
 rw [hc] at ec
 simp only at ec
 rw [ec] at u1
 have hd:=qN hc
 simp only at hd
 obtain ⟨d1,d2,d3⟩:=hd
 have u2:=qF l 32 (by omega)
 have d6 : ¬ s = []:=by rintro rfl; simp at d1
 have hm:=mU 32 l
 simp only at u1
 rcases hw : bg 32 l with _ | ⟨w0,_ | ⟨w1,_ | ⟨w2,_ | ⟨w3,ws⟩⟩⟩⟩
 ·exact absurd hw (vq 32 l)
 ·rw [hw] at u2; simp at u1 u2; simp -implicitDefEqProofs [lp,u1,u2,hw]
 ·rw [hw] at u2; simp at u1 u2; simp -implicitDefEqProofs [lp,u1,u2,hw]
 rotate_left
 ·rw [hw] at u2
  have hn : ¬ ((ws.length : Int) + 1 + 1 + 1 + 1 = 3):=by omega
  simp at u1 u2; simp -implicitDefEqProofs [lp,u1,u2,hw,hn]
 have hw1:=hm w1 (by rw [hw]; simp)
 rw [hw] at u2
 have u3:=sU w1 (by omega)
 cases hq : aZ w1 with
 | none =>
  rw [hq] at u3
  have g : ¬ gx ((0 : Nat) : Int) b = s:=by rw [show gx ((0 : Nat) : Int) b = [] by unfold gx; rw [if_neg (by omega)]]; exact fun h=>d6 h.symm
  simp at u1 u2 u3 g
  simp -implicitDefEqProofs [lp,u1,u2,hw,hq,u3,eq_false g]
 | some n =>
 rw [hq] at u3
 have u4:=TB (n : Int) b (by omega)
 simp at u1 u2 u3
 by_cases h0 : n = 0
 ·subst h0
  have g : ¬ gx ((0 : Nat) : Int) b = s:=by rw [show gx ((0 : Nat) : Int) b = [] by unfold gx; rw [if_neg (by omega)]]; exact fun h=>d6 h.symm
  simp at g
  simp -implicitDefEqProofs [lp,u1,u2,hw,hq,u3,eq_false g]
 by_cases g : gx (n : Int) b = s
 ·simp -implicitDefEqProofs [lp,u1,u2,hw,hq,u3,u4,h0,eq_true g]
 simp -implicitDefEqProofs [lp,u1,u2,hw,hq,u3,u4,h0,eq_false g]
 all_goals (repeat' split) <;> first | rfl | omega | (simp_all; done) | (simp_all; omega) | skip
end M
set_option maxHeartbeats 4000000
namespace M
open Go
def lY : ag:=[112,97,116,104]
def lW : ag:=[98,101,108,111,119]
def lX : ag:=[102,105,101,108,100]
def kQ (k : Int) : ag:=if k = 1 then lY else if k = 2 then lW else lX
def nO (w : ag) : Int:=if w = lY then 1 else if w = lW then 2 else if w = lX then 3 else 0
def jk (b : Bn) : ag:=if dr b = true then [98,97,110] ++ 32 :: (kQ b.kind ++ 32 :: (dM b.t ++ 32 :: (b.a ++ if b.kind = 3 then 10 :: b.b else []))) else []
theorem KJ {b : Bn} (h : dr b = true) : b.kind = 1∨b.kind = 2∨b.kind = 3:=by
 unfold dr at h
 by_cases h1 : b.kind = 1
 ·exact Or.inl h1
 by_cases h2 : b.kind = 2
 ·exact Or.inr (Or.inl h2)
 by_cases h3 : b.kind = 3
 ·exact Or.inr (Or.inr h3)
 simp [h1,h2,h3] at h
theorem aif (k : Int) : (kQ k).length≤5:=by
 unfold kQ
 (repeat' split) <;> simp [lY,lW,lX]
theorem AO (k : Int) (hk : k = 1∨k = 2∨k = 3) : ev LI TT 365 [.int .i64 k] = some (.str ⟨(kQ k).toArray⟩,[.dead]):=by
 rw [aq (b:=Ci) (rs:=[.t 2]) (n:=1) rfl rfl]
 rcases hk with rfl | rfl | rfl
 all_goals
 simp -implicitDefEqProofs [Ci,kQ,lY,lW,lX,zW,sx,uB,bz]
 all_goals (repeat' split) <;> first | rfl | omega | (simp_all; done) | (simp_all; omega) | skip
theorem UP (b : Bn) (hb : aR b≤1073741824) : ev LI TT 315 [.agg (aS b)] = some (.str ⟨(jk b).toArray⟩,[.dead]):=by
 rw [aq (b:=y9) (rs:=[.t 2]) (n:=1) rfl rfl]
 obtain ⟨kd,a0,b0,t0⟩:=b
 have hw : aR ⟨kd,a0,b0,t0⟩ = a0.length + b0.length:=rfl
 have l1:=Dz t0
 unfold jk
 have u1:=FL  ⟨kd,a0,b0,t0⟩ hb
 try simp at u1
 have u2:=sW  t0
 try simp at u2
 by_cases g : dr ⟨kd,a0,b0,t0⟩ = true
 rotate_left
 ·simp -implicitDefEqProofs [y9,u1,u2,g]
 rw [g] at u1
 rcases KJ g with h | h | h
 all_goals simp only at h
 all_goals subst h
 all_goals
 simp -implicitDefEqProofs [y9,u1,u2,g,kQ,lY,lW,lX,zW,sx,uB,bz,gN,Ja]
 all_goals (try simp only [*,not_false_eq_true,if_false,List.append_nil])
 all_goals (repeat rw [if_pos (by omega)])
 all_goals (try simp)
 all_goals first | done | omega | (refine ⟨by omega,by omega,?_⟩; rw [show (⟨#[10]⟩ : ByteArray) = ⟨([10] : ag).toArray⟩ from rfl,gN,gN]; simp; done) | skip
theorem Tl (b : Bn) (hb : aR b≤1073741824) : ev LI TT 366 [.agg (aS b)] = some (.str ⟨(jk b).toArray⟩,[.dead]):=by
 rw [aq (b:=xe) (rs:=[.t 2]) (n:=1) rfl rfl]
 obtain ⟨kd,a0,b0,t0⟩:=b
 have hw : aR ⟨kd,a0,b0,t0⟩ = a0.length + b0.length:=rfl
 have l1:=Dz t0
 have l2:=aif kd
 unfold jk
 have u1:=Ft  ⟨kd,a0,b0,t0⟩ hb
 try simp at u1
 have u2:=KQ  t0
 try simp at u2
 by_cases g : dr ⟨kd,a0,b0,t0⟩ = true
 rotate_left
 ·simp -implicitDefEqProofs [xe,u1,u2,g]
 rw [g] at u1
 have u3:=AO kd (KJ g)
 try simp at u3
 by_cases h : kd = 3
 all_goals (try subst h)
 all_goals
 simp -implicitDefEqProofs [xe,u1,u2,u3,g,gN]
 all_goals (try simp only [*,not_false_eq_true,if_false,List.append_nil])
 all_goals (repeat rw [if_pos (by omega)])
 all_goals (try simp)
 all_goals first | done | omega | (refine ⟨by omega,by omega,?_⟩; rw [show (⟨#[10]⟩ : ByteArray) = ⟨([10] : ag).toArray⟩ from rfl,gN,gN]; simp; done) | skip
end M
set_option maxHeartbeats 4000000
namespace M
open Go
def ek : List ag:=[lY,lW,lX]
def pM (w : ag) (i : Nat) (g : Int) (b : ag) : Int:=if b = w then ((1 + i : Nat) : Int) else g
theorem NU (w : ag) : foldI (pM w) 0 ek 0 = nO w:=by
 unfold nO pM
 simp only [ek,foldI]
 by_cases h1 : w = lY
 ·subst h1; rfl
 by_cases h2 : w = lW
 ·subst h2; rfl
 by_cases h3 : w = lX
 ·subst h3; rfl
 simp [h1,h2,h3,Ne.symm h1,Ne.symm h2,Ne.symm h3,eq_comm (b:=w)]
theorem RG (s w0 w1 w2 w3 v : ag) (g : Int) (hinv : True) : aC (ai (ev LI TT) (aj TT) y8) [(0,.str ⟨s.toArray⟩),(2,.ptr .own [.int .i64 0,.str ⟨#[]⟩,.str ⟨#[]⟩,.int .i64 0]),(6,.ptr .own [.int .i64 g,.str ⟨#[]⟩,.str ⟨v.toArray⟩,.int .i64 0]),(7,.row .own 1 ([w0,w1,w2,w3].map eS)),(8,.row .own 1 (([] :: ek).map eS)),(9,.int .i64 ((1 + 0 : Nat) : Int))] = some (.exit 0,[(0,.str ⟨s.toArray⟩),(2,.ptr .own [.int .i64 0,.str ⟨#[]⟩,.str ⟨#[]⟩,.int .i64 0]),(6,.ptr .own [.int .i64 (foldI (pM w1) 0 (ek) g),.str ⟨#[]⟩,.str ⟨v.toArray⟩,.int .i64 0]),(7,.row .own 1 ([w0,w1,w2,w3].map eS)),(8,.row .own 1 (([] :: ek).map eS)),(9,.int .i64 4),(33,.bool false)]):=by
 refine gw (f:=ai (ev LI TT) (aj TT) y8) (ek) (fun i (g : Int)=>[(0,.str ⟨s.toArray⟩),(2,.ptr .own [.int .i64 0,.str ⟨#[]⟩,.str ⟨#[]⟩,.int .i64 0]),(6,.ptr .own [.int .i64 g,.str ⟨#[]⟩,.str ⟨v.toArray⟩,.int .i64 0]),(7,.row .own 1 ([w0,w1,w2,w3].map eS)),(8,.row .own 1 (([] :: ek).map eS)),(9,.int .i64 ((1 + i : Nat) : Int))]) (pM w1) (fun g=>[(0,.str ⟨s.toArray⟩),(2,.ptr .own [.int .i64 0,.str ⟨#[]⟩,.str ⟨#[]⟩,.int .i64 0]),(6,.ptr .own [.int .i64 g,.str ⟨#[]⟩,.str ⟨v.toArray⟩,.int .i64 0]),(7,.row .own 1 ([w0,w1,w2,w3].map eS)),(8,.row .own 1 (([] :: ek).map eS)),(9,.int .i64 4),(33,.bool false)]) (fun i (g : Int)=>True) g hinv (fun i b g hi hl hinv=>?_) (fun i b g hi hinv=>?_) (fun g hinv=>?_)
 ·have hw:=aM i (by simp [ek] at hl; omega)
  obtain ⟨_,rfl⟩:=List.getElem?_eq_some_iff.1 hi
  have h3 : i = 0∨i = 1∨i = 2:=by simp [ek] at hl; omega
  by_cases hq : ek[i] = w1
  all_goals rcases h3 with rfl | rfl | rfl
  all_goals simp only [ek,List.getElem_cons_zero,List.getElem_cons_succ] at hq
  all_goals
  simp -implicitDefEqProofs [y8,I9,hl,hw,pM,hq,ek,bz]
 ·trivial
 ·simp -implicitDefEqProofs [y8,I9,ek]
theorem QL (s w0 w1 w2 w3 v : ag) (is : Bool) (n : Int) (g : Int) (hinv : True) : aC (ai (ev LI TT) (aj TT) xd) [(0,.str ⟨s.toArray⟩),(2,.ptr .own [.int .i64 0,.str ⟨#[]⟩,.str ⟨#[]⟩,.int .i64 0]),(7,.row .own 1 ([w0,w1,w2,w3].map eS)),(9,.bool is),(10,.ptr .own [.int .i64 g,.str ⟨w3.toArray⟩,.str ⟨v.toArray⟩,.int .i64 n]),(11,.int .i64 ((1 + 0 : Nat) : Int))] = some (.exit 0,[(0,.str ⟨s.toArray⟩),(2,.ptr .own [.int .i64 0,.str ⟨#[]⟩,.str ⟨#[]⟩,.int .i64 0]),(7,.row .own 1 ([w0,w1,w2,w3].map eS)),(9,.bool is),(10,.ptr .own [.int .i64 (foldI (pM w1) 0 (ek) g),.str ⟨w3.toArray⟩,.str ⟨v.toArray⟩,.int .i64 n]),(11,.int .i64 4),(38,.bool false)]):=by
 refine gw (f:=ai (ev LI TT) (aj TT) xd) (ek) (fun i (g : Int)=>[(0,.str ⟨s.toArray⟩),(2,.ptr .own [.int .i64 0,.str ⟨#[]⟩,.str ⟨#[]⟩,.int .i64 0]),(7,.row .own 1 ([w0,w1,w2,w3].map eS)),(9,.bool is),(10,.ptr .own [.int .i64 g,.str ⟨w3.toArray⟩,.str ⟨v.toArray⟩,.int .i64 n]),(11,.int .i64 ((1 + i : Nat) : Int))]) (pM w1) (fun g=>[(0,.str ⟨s.toArray⟩),(2,.ptr .own [.int .i64 0,.str ⟨#[]⟩,.str ⟨#[]⟩,.int .i64 0]),(7,.row .own 1 ([w0,w1,w2,w3].map eS)),(9,.bool is),(10,.ptr .own [.int .i64 g,.str ⟨w3.toArray⟩,.str ⟨v.toArray⟩,.int .i64 n]),(11,.int .i64 4),(38,.bool false)]) (fun i (g : Int)=>True) g hinv (fun i b g hi hl hinv=>?_) (fun i b g hi hinv=>?_) (fun g hinv=>?_)
 ·have hw:=aM i (by simp [ek] at hl; omega)
  obtain ⟨_,rfl⟩:=List.getElem?_eq_some_iff.1 hi
  have h3 : i = 0∨i = 1∨i = 2:=by simp [ek] at hl; omega
  have b1:=AO 1 (by omega)
  have b2:=AO 2 (by omega)
  have b3:=AO 3 (by omega)
  simp only [kQ,if_true,show ¬ ((2 : Int) = 1) by omega,show ¬ ((3 : Int) = 1) by omega,show ¬ ((3 : Int) = 2) by omega,if_false] at b1 b2 b3
  try simp at b1
  try simp at b2
  try simp at b3
  by_cases hq : ek[i] = w1
  all_goals rcases h3 with rfl | rfl | rfl
  all_goals simp only [ek,List.getElem_cons_zero,List.getElem_cons_succ] at hq
  all_goals
  simp -implicitDefEqProofs [xd,Hj,hl,hw,pM,hq,ek,bz,b1,b2,b3]
 ·trivial
 ·simp -implicitDefEqProofs [xd,Hj,ek]
def zB : Bn:=⟨0,[],[],0⟩
def gW (s : ag) : ag×ag:=match cr 10 s with
 | some p=>p
 | none=>(s,[])
def qB (s v : ag) (ws : List ag) : Bn×Bool:=match ws with
 | [_,w,t,a]=>if jk ⟨nO w,a,v,((aZ t).getD 0 : Nat)⟩ = s then (⟨nO w,a,v,((aZ t).getD 0 : Nat)⟩,true) else (zB,false)
 | _=>(zB,false)
def fA (s : ag) : Bn×Bool:=qB s (gW s).2 (bg 32 (gW s).1)
theorem KK {s v : ag} {ws : List ag} (h : ws.length≠4) : qB s v ws = (zB,false):=by
 unfold qB
 split
 ·simp at h
 ·rfl
theorem Df {ws : List ag} (h : ws.length = 4) : ∃ a b c d,ws = [a,b,c,d]:=by
 match ws,h with
 | [a,b,c,d],_=>exact ⟨a,b,c,d,rfl⟩
theorem KI (s : ag) : (gW s).1.length≤s.length∧(gW s).2.length≤s.length:=by
 unfold gW
 cases h : cr 10 s with
 | none=>simp
 | some p =>
  have:=congrArg List.length (A0 h)
  simp at this ⊢
  omega
theorem LP : ∀ (p r : ag),(∀ b∈p,b≠10)→cr 10 (p ++ r) = (cr 10 r).map fun q=>(p ++ q.1,q.2)
 | [],r,_=>by simp
 | b :: p,r,h=>by
  rw [List.cons_append,cr,if_neg (h b (List.mem_cons_self ..)),LP p r fun x hx=>h x (List.mem_cons_of_mem _ hx)]
  cases cr 10 r <;> simp
theorem S1 (p r : ag) (h : ∀ b∈p,b≠10) : (gW (p ++ r)).1 = p ++ (gW r).1:=by
 unfold gW
 rw [LP p r h]
 cases cr 10 r <;> simp
theorem JH (w r : ag) (h : ∀ b∈w,b≠32) : bg 32 (w ++ 32 :: r) = w :: bg 32 r:=by
 rw [zX 32 w _ h]
 simp [bg]
theorem Qh (k : Int) : ∀ b∈kQ k,b≠32∧b≠10:=by
 unfold kQ
 (repeat' split) <;> simp [lY,lW,lX]
theorem S7 {s w0 w1 w2 w3 v a : ag} {k : Int} (h : jk ⟨k,a,v,0⟩ = s) (hs : bg 32 (gW s).1 = [w0,w1,w2,w3]) : aZ w2≠none∨s = []:=by
 unfold jk at h
 split at h
 ·left
  have e : dM 0 = [48]:=by simp [dM,A8]
  rw [e] at h
  simp only at h
  have e2 : s = ([98,97,110,32] ++ (kQ k ++ [32,48,32])) ++ (a ++ if k = 3 then 10 :: v else []):=by rw [← h]; simp
  rw [e2,S1 _ _ (by intro b hb; simp at hb; rcases hb with rfl | rfl | rfl | rfl | hb | rfl | rfl | rfl <;> first | decide | exact (Qh k b hb).2)] at hs
  have e3 : [98,97,110,32] ++ (kQ k ++ [32,48,32]) ++ (gW (a ++ if k = 3 then 10 :: v else [])).1 = [98,97,110] ++ 32 :: (kQ k ++ 32 :: ([48] ++ 32 :: (gW (a ++ if k = 3 then 10 :: v else [])).1)):=by simp
  rw [e3,JH _ _ (by decide),JH _ _ (fun b hb=>(Qh k b hb).1),JH _ _ (by decide)] at hs
  simp only [List.cons.injEq] at hs
  obtain ⟨_,_,rfl,_⟩:=hs
  simp [aZ,j7,A8]
 ·right; exact h.symm
theorem UO (s : ag) (hb : s.length≤1048576) : ev LI TT 270 [.str ⟨s.toArray⟩] = some (.au [.agg (aS ((fA s).1)),.bool ((fA s).2)],[.dead]):=by
 rw [aq (b:=n6) (rs:=[.c 2 4 true 75,.t 3]) (n:=1) rfl rfl]
 have u1:=AQ s 0 (by omega) (by omega)
 have bl:=KI s
 simp only [uA,uz,List.drop_zero] at u1
 unfold fA
 have hX : ∃ l v e,gW s = (l,v)∧((e = -1∧v = []∧l = s∧ev LI TT 271 [.str ⟨s.toArray⟩,.int .i64 0] = some (.au [.str ⟨#[]⟩,.int .i64 (-1)],[.dead,.dead]))∨(∃ m : Nat,e = (m : Int)∧m≤s.length∧s.length - m = v.length∧s.drop m = v∧ev LI TT 271 [.str ⟨s.toArray⟩,.int .i64 0] = some (.au [.str ⟨l.toArray⟩,.int .i64 m],[.dead,.dead]))):=by
  unfold gW
  cases hc : cr 10 s with
  | none=>rw [hc] at u1; exact ⟨s,[],-1,rfl,Or.inl ⟨rfl,rfl,rfl,by simpa using u1⟩⟩
  | some p =>
   obtain ⟨l,v⟩:=p
   rw [hc] at u1
   obtain ⟨d1,d2,d3⟩:=qN hc
   exact ⟨l,v,_,rfl,Or.inr ⟨s.length - v.length,rfl,by omega,by simp only at d1; omega,d2,by simpa using u1⟩⟩
 clear u1
 obtain ⟨l,v,e,he,hX⟩:=hX
 rw [he] at bl ⊢
 simp only at bl ⊢
 have u2:=sX l (by omega)
 have hm:=mU 32 l
 by_cases h4 : (bg 32 l).length = 4
 rotate_left
 ·rw [KK h4]
  have oZ : ¬ (((bg 32 l).length : Int) = 4):=by omega
  try simp at u2
  rcases hX with ⟨rfl,rfl,rfl,u1⟩ | ⟨m,rfl,k1,k2,k3,u1⟩
  ·simp -implicitDefEqProofs [n6,u1,u2,oZ,zB]
  ·have k4 : ¬ ((m : Int) < 0):=by omega
   have k5 : (m : Int)≤s.length:=by omega
   simp -implicitDefEqProofs [n6,u1,u2,oZ,zB,k1,k2,k3,k4,k5,Lib.extract_mk]
 obtain ⟨w0,w1,w2,w3,hw⟩:=Df h4
 rw [hw] at u2 hm ⊢
 have u3:=sV w2 (by have:=hm w2 (by simp); omega)
 have u4:=UP ⟨nO w1,w3,v,((aZ w2).getD 0 : Nat)⟩ (by have:=hm w3 (by simp); simp only [aR]; omega)
 have u5:=RG s w0 w1 w2 w3 v 0 trivial
 rw [NU] at u5
 obtain ⟨n,hn⟩ : ∃ n,(aZ w2).getD 0 = n:=⟨_,rfl⟩
 unfold qB
 simp only [hn] at u3 u4 ⊢
 simp [ek,lY,lW,lX] at u2 u3 u4 u5
 by_cases g : jk ⟨nO w1,w3,v,(n : Int)⟩ = s
 all_goals rcases hX with ⟨rfl,rfl,rfl,u1⟩ | ⟨m,rfl,k1,k2,k3,u1⟩
 ·simp -implicitDefEqProofs [n6,u1,u2,u3,u4,u5,eq_true g,zB]
 ·have k4 : ¬ ((m : Int) < 0):=by omega
  have k5 : (m : Int)≤s.length:=by omega
  simp -implicitDefEqProofs [n6,u1,u2,u3,u4,u5,eq_true g,zB,k1,k2,k3,k4,k5,Lib.extract_mk]
 ·simp -implicitDefEqProofs [n6,u1,u2,u3,u4,u5,eq_false g,zB]
 have k4 : ¬ ((m : Int) < 0):=by omega
 have k5 : (m : Int)≤s.length:=by omega
 simp -implicitDefEqProofs [n6,u1,u2,u3,u4,u5,eq_false g,zB,k1,k2,k3,k4,k5,Lib.extract_mk]
 all_goals (repeat' split) <;> first | rfl | omega | (simp_all; done) | (simp_all; omega) | skip
theorem Tj (s : ag) (hb : s.length≤1048576) : ev LI TT 279 [.str ⟨s.toArray⟩] = some (.au [.agg (aS ((fA s).1)),.bool ((fA s).2)],[.dead]):=by
 rw [aq (b:=ri) (rs:=[.c 2 4 true 75,.t 3]) (n:=1) rfl rfl]
 have u1:=sY s [10] (by omega)
 have ec:=A6 10 s
 have bl:=KI s
 unfold fA
 have hX : ∃ l v k,gW s = (l,v)∧ev LI TT 363 [.str ⟨s.toArray⟩,.str ⟨#[10]⟩] = some (.au [.str ⟨l.toArray⟩,.str ⟨v.toArray⟩,.bool k],[.dead,.dead]):=by
  unfold gW
  cases hc : cr 10 s with
  | none=>rw [hc] at ec; simp only at ec; rw [ec] at u1; exact ⟨s,[],_,rfl,u1⟩
  | some p=>rw [hc] at ec; simp only at ec; rw [ec] at u1; exact ⟨p.1,p.2,_,rfl,u1⟩
 clear u1 ec
 obtain ⟨l,v,k,he,u1⟩:=hX
 have hz:=fun w0 w1 w2 w3 v a k=>S7 (s:=s) (w0:=w0) (w1:=w1) (w2:=w2) (w3:=w3) (v:=v) (a:=a) (k:=k)
 rw [he] at bl hz ⊢
 simp only at bl hz ⊢
 have u2:=qF l 32 (by omega)
 have hm:=mU 32 l
 by_cases h4 : (bg 32 l).length = 4
 rotate_left
 ·rw [KK h4]
  have oZ : ¬ (((bg 32 l).length : Int) = 4):=by omega
  try simp at u2
  simp -implicitDefEqProofs [ri,u1,u2,oZ,zB]
 obtain ⟨w0,w1,w2,w3,hw⟩:=Df h4
 rw [hw] at u2 hm hz ⊢
 have u3:=sU w2 (by have:=hm w2 (by simp); omega)
 have u4:=Tl ⟨nO w1,w3,v,((aZ w2).getD 0 : Nat)⟩ (by have:=hm w3 (by simp); simp only [aR]; omega)
 have u5:=QL s w0 w1 w2 w3 v (aZ w2).isSome ((aZ w2).getD 0 : Nat) 0 trivial
 rw [NU] at u5
 unfold qB
 cases hn : aZ w2 with
 | none =>
  rw [hn] at u3 u4 u5
  have g : ¬ jk ⟨nO w1,w3,v,0⟩ = s:=by
   intro g
   rcases hz _ _ _ _ _ _ _ g rfl with h | h
   ·exact h hn
   ·subst h
    rw [show gW [] = ([],[]) from rfl] at he
    obtain ⟨rfl,rfl⟩:=Prod.mk.inj he
    simp [bg] at h4
  simp [ek,lY,lW,lX] at u2 u3 u4 u5 g
  simp -implicitDefEqProofs [ri,u1,u2,u3,u4,u5,hn,eq_false g,zB]
 | some n =>
 rw [hn] at u3 u4 u5
 simp [ek,lY,lW,lX] at u2 u3 u4 u5
 by_cases g : jk ⟨nO w1,w3,v,(n : Int)⟩ = s
 ·simp -implicitDefEqProofs [ri,u1,u2,u3,u4,u5,hn,eq_true g,zB]
 simp -implicitDefEqProofs [ri,u1,u2,u3,u4,u5,hn,eq_false g,zB]
 all_goals (repeat' split) <;> first | rfl | omega | (simp_all; done) | (simp_all; omega) | skip
end M
