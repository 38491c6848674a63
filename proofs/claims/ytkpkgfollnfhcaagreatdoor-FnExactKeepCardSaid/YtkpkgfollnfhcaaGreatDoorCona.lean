/- What the functions come to in the machine; no conditions. -/
import Derived.Test.YtkpkgfollnfhcaaGreatDoorTab
import Derived.Test.YtkpkgfollnfhcaaGreatDoorMc
set_option linter.unusedSectionVars false
set_option linter.unusedVariables false
set_option linter.unusedSimpArgs false
namespace M
open Go
theorem Jr (l : List ah) (hlen : l.length≤9223372036854775807) (hb : bL bS l) (n : Int) (hn : 0≤n) (hm : n≤9223372036854775807) : aK (ai (ev LI TT) (aj TT) pL) [(0,.row .af 1 (l.map (eS))),(1,.int .i64 n),(5,.int .i64 0)] = if dM (fun b n=>aH n (wS b)) (l) n < 0 then some (.ret,[(4,.int .i64 (-1))]) else some (.exit 0,[(0,.row .af 1 (l.map (eS))),(1,.int .i64 (dM (fun b n=>aH n (wS b)) (l) n)),(5,.int .i64 (l).length),(15,.bool false)]):=by
 refine tB (f:=ai (ev LI TT) (aj TT) pL) (l) (fun i n=>[(0,.row .af 1 (l.map (eS))),(1,.int .i64 n),(5,.int .i64 i)]) (fun b n=>aH n (wS b)) _ (fun n=>[(0,.row .af 1 (l.map (eS))),(1,.int .i64 n),(5,.int .i64 (l).length),(15,.bool false)]) n hn hm (fun b n=>uM _ n) (fun i b n hi hl hn hm=>?_) (fun n=>?_)
 ·have hw:=aT i (by first | omega | (simp at hl; omega))
  obtain ⟨_,rfl⟩:=List.getElem?_eq_some_iff.1 hi
  have h1 : (l[i]).length≤9223372036854775807:=hb.2 _ (List.getElem_mem hl)
  have h3:=cj n (wS l[i])
  have h4 : wS l[i] = (l[i]).length:=rfl
  obtain ⟨m,e1⟩ : ∃ m,m = n - ((l[i]).length : Int):=⟨_,rfl⟩
  have h2 : IntKind.i64.wrap (n - ((l[i]).length : Int)) = m:=by rw [e1]; exact aN (by omega) (by omega)
  by_cases h5 : m < 0
  ·have ef : aH n (wS l[i]) = -1:=by omega
   simp -implicitDefEqProofs [pL,xL,hl,hw,h2,h5,ef]
  have ef : aH n (wS l[i]) = m:=by omega
  simp -implicitDefEqProofs [pL,xL,hl,hw,h2,h5,ef]
 ·simp -implicitDefEqProofs [pL,xL]
theorem zX (l : List ah) (n : Int) (hb : bL bS l) (hn : 0≤n) (hm : n≤9223372036854775807) : ev LI TT 105 [.row .af 1 (l.map (eS)),.int .i64 n] = some (.int .i64 (aH n (wL wS l)),[.dead,.dead]):=by
 rw [az (b:=pM) (rs:=[.t 4]) (n:=2) rfl rfl]
 have hl:=hb.1
 have hw : wL wS l = l.length + (l.map wS).sum:=rfl
 have ht:=cj n (wL wS l)
 obtain ⟨m,e1⟩ : ∃ m,m = n - (l.length : Int):=⟨_,rfl⟩
 have h2 : IntKind.i64.wrap (n - (l.length : Int)) = m:=by rw [e1]; exact aN (by omega) (by omega)
 by_cases h : m < 0
 ·have ef : aH n (wL wS l) = -1:=by omega
  simp -implicitDefEqProofs [pM,h2,h,ef]
 have h3:=Jr  l hb.1 hb m (by omega) (by omega)
 rw [qm _ _ _ (by omega)] at h3
 have hs:=cj m (l.map wS).sum
 obtain ⟨q,e2⟩ : ∃ q,q = aH m (l.map wS).sum:=⟨_,rfl⟩
 rw [← e2] at h3 hs
 try simp at h3
 by_cases h4 : q < 0
 ·have ef : aH n (wL wS l) = -1:=by omega
  simp only [h4,if_true] at h3
  simp -implicitDefEqProofs [pM,h2,h,h3,ef]
 have ef : aH n (wL wS l) = q:=by omega
 simp only [h4,if_false] at h3
 simp -implicitDefEqProofs [pM,h2,h,h3,ef]
 all_goals (repeat' split) <;> first | rfl | omega | (simp_all; done) | (simp_all; omega) | skip
theorem Jw (l : List ah) (hlen : l.length≤1048576) (hb : wL wS l≤1048576) : aK (ai (ev LI TT) (aj TT) tf) [(0,.row .af 1 (l.map eS)),(3,.row .own 1 (cZ (l.map eS) 0 [.str ⟨#[]⟩])),(4,.int .i64 0),(6,.int .i64 l.length)] = some (.exit 0,[(0,.row .af 1 (l.map eS)),(3,.row .own 1 (l.map eS)),(4,.int .i64 (l).length),(6,.int .i64 l.length),(11,.bool false)]):=by
 refine eZ (f:=ai (ev LI TT) (aj TT) tf) (l) (fun i=>[(0,.row .af 1 (l.map eS)),(3,.row .own 1 (cZ (l.map eS) i [.str ⟨#[]⟩])),(4,.int .i64 i),(6,.int .i64 l.length)]) _ (fun i b hi hl=>?_) ?_
 ·have hw:=aT i (by first | omega | (simp at hl; omega))
  obtain ⟨_,rfl⟩:=List.getElem?_eq_some_iff.1 hi
  skip
  simp -implicitDefEqProofs [tf,Cl,hl,hw]
  first | done | (rw [jA _ _ _ _ (by simpa using hl) (by simp)]; done) | (simp only [jN]; rw [jA _ _ _ _ (by simpa using hl) (by simp)])
 ·simp -implicitDefEqProofs [tf,Cl]
theorem zY (l : List ah) (hb : wL wS l≤1048576) : ev LI TT 111 [.row .af 1 (l.map eS)] = some (.row .own 1 (l.map eS),[.dead]):=by
 rw [az (b:=xW) (rs:=[.t 2]) (n:=1) rfl rfl]
 have hlen:=aY (w:=wS) l
 have h:=Jw  l (by omega) hb
 try simp at h
 simp -implicitDefEqProofs [xW,h,(by omega : (l.length : Int) * 16≤140737488355328)]
 all_goals (repeat' split) <;> first | rfl | omega | (simp_all; done) | (simp_all; omega) | skip
theorem Jb (ps : List (ah×ah)) (hb : ps.length≤9223372036854775807) (dU : ∀ x∈ps,wS x.1≤1073741824) : aK (ai (ev LI TT) (aj TT) sK) [(0,.row .af 1 (ps.map (fun x : ah×ah=>eS x.1))),(1,.row .af 1 (ps.map (fun x : ah×ah=>eS x.2))),(5,.int .i64 0)] = if aZ cL (ps) = true then some (.exit 0,[(0,.row .af 1 (ps.map (fun x : ah×ah=>eS x.1))),(1,.row .af 1 (ps.map (fun x : ah×ah=>eS x.2))),(5,.int .i64 ps.length),(14,.bool false)]) else some (.ret,[(4,.bool false)]):=by
 refine cO (f:=ai (ev LI TT) (aj TT) sK) (ps) (fun i=>[(0,.row .af 1 (ps.map (fun x : ah×ah=>eS x.1))),(1,.row .af 1 (ps.map (fun x : ah×ah=>eS x.2))),(5,.int .i64 i)]) cL _ _ (fun i b hi hl=>?_) ?_
 ·have hw:=aT i (by first | omega | (simp at hl; omega))
  obtain ⟨_,rfl⟩:=List.getElem?_eq_some_iff.1 hi
  simp -implicitDefEqProofs [sK,BZ,hl,hw,cL]
  first | done | (split <;> simp_all)
 ·simp -implicitDefEqProofs [sK,BZ]
theorem zV (a b : List ah) (hb : wL wS a≤1073741824) : ev LI TT 77 [.row .af 1 (a.map eS),.row .af 1 (b.map eS)] = some (.bool (decide (a = b)),[.dead,.dead]):=by
 rw [az (b:=xm) (rs:=[.t 4]) (n:=2) rfl rfl]
 simp -implicitDefEqProofs [xm]
 have hlen:=aY (w:=wS) a
 by_cases h : a.length = b.length
 ·obtain ⟨ps,rfl,rfl⟩:=ov h
  have h1:=Jb  ps (by simp at hlen; omega) (fun x hx=>Nat.le_trans (gL (List.mem_map_of_mem hx)) hb)
  have h2:=mU ps
  simp at h1
  rw [← h2]
  cases h3 : aZ cL ps <;> rw [h3] at h1 <;> simp [h1,Function.comp_def]
 ·have : ¬ a = b:=fun e=>h (by rw [e])
  simp [this]
  omega
theorem LC (a : Wr) (n : Int) (hb : oC a) (hn : 0≤n) (hm : n≤9223372036854775807) : ev LI TT 211 [.agg (eW a),.int .i64 n] = some (.int .i64 (aH n (br a)),[.dead,.dead]):=by
 rw [az (b:=s8) (rs:=[.t 4]) (n:=2) rfl rfl]
 have hw : br a = a.text.length:=rfl
 have ht:=cj n (br a)
 have oR : a.text.length≤9223372036854775807:=hb.Ro
 obtain ⟨m1,e1⟩ : ∃ m,m = n - (a.text.length : Int):=⟨_,rfl⟩
 have c1 : IntKind.i64.wrap (n - (a.text.length : Int)) = m1:=by rw [e1]; exact aN (by omega) (by omega)
 by_cases h1 : m1 < 0
 ·have ef : aH n (br a) = -1:=by omega
  simp -implicitDefEqProofs [s8,c1,h1,ef]
 have ef : aH n (br a) = m1:=by omega
 simp -implicitDefEqProofs [s8,c1,h1,ef]
 all_goals (repeat' split) <;> first | rfl | omega | (simp_all; done) | (simp_all; omega) | skip
theorem LP (a : Wr) (hb : br a≤1048576) : ev LI TT 218 [.agg (eW a)] = some (.agg (eW a),[.dead]):=by
 rw [az (b:=xY) (rs:=[.c 2 2 true 246]) (n:=1) rfl rfl]
 have hw : br a = a.text.length:=rfl
 simp -implicitDefEqProofs [xY,hw]
 all_goals (repeat' split) <;> first | rfl | omega | (simp_all; done) | (simp_all; omega) | skip
theorem Le (a b : Wr) (hb : br a≤1073741824) : ev LI TT 227 [.agg (eW a),.agg (eW b)] = some (.bool (decide (a = b)),[.dead,.dead]):=by
 rw [az (b:=pz) (rs:=[.t 4]) (n:=2) rfl rfl]
 have hw : br a = a.text.length:=rfl
 rw [MQ]
 by_cases g1 : a.at_ = b.at_
 rotate_left
 ·simp -implicitDefEqProofs [pz,eq_false g1]
 by_cases g2 : a.text = b.text
 rotate_left
 ·simp -implicitDefEqProofs [pz,eq_true g1,eq_false g2]
 simp -implicitDefEqProofs [pz,eq_true g1,eq_true g2]
 all_goals (repeat' split) <;> first | rfl | omega | (simp_all; done) | (simp_all; omega) | skip
theorem Js (l : List Wr) (hlen : l.length≤9223372036854775807) (hb : bL oC l) (n : Int) (hn : 0≤n) (hm : n≤9223372036854775807) : aK (ai (ev LI TT) (aj TT) s7) [(0,.row .af 2 (l.map (eW))),(1,.int .i64 n),(5,.int .i64 0)] = if dM (fun b n=>aH n (br b)) (l) n < 0 then some (.ret,[(4,.int .i64 (-1))]) else some (.exit 0,[(0,.row .af 2 (l.map (eW))),(1,.int .i64 (dM (fun b n=>aH n (br b)) (l) n)),(5,.int .i64 (l).length),(15,.bool false)]):=by
 refine tB (f:=ai (ev LI TT) (aj TT) s7) (l) (fun i n=>[(0,.row .af 2 (l.map (eW))),(1,.int .i64 n),(5,.int .i64 i)]) (fun b n=>aH n (br b)) _ (fun n=>[(0,.row .af 2 (l.map (eW))),(1,.int .i64 n),(5,.int .i64 (l).length),(15,.bool false)]) n hn hm (fun b n=>uM _ n) (fun i b n hi hl hn hm=>?_) (fun n=>?_)
 ·have hw:=aT i (by first | omega | (simp at hl; omega))
  obtain ⟨_,rfl⟩:=List.getElem?_eq_some_iff.1 hi
  have h2:=LC  l[i] n (hb.2 _ (List.getElem_mem hl)) hn hm
  obtain ⟨m,e1⟩ : ∃ m,m = aH n (br l[i]):=⟨_,rfl⟩
  rw [← e1] at h2 ⊢
  try simp at h2
  simp -implicitDefEqProofs [s7,Ch,hl,hw,h2]
 ·simp -implicitDefEqProofs [s7,Ch]
theorem LD (l : List Wr) (n : Int) (hb : bL oC l) (hn : 0≤n) (hm : n≤9223372036854775807) : ev LI TT 118 [.row .af 2 (l.map (eW)),.int .i64 n] = some (.int .i64 (aH n (wL br l)),[.dead,.dead]):=by
 rw [az (b:=pN) (rs:=[.t 4]) (n:=2) rfl rfl]
 have hl:=hb.1
 have hw : wL br l = l.length + (l.map br).sum:=rfl
 have ht:=cj n (wL br l)
 obtain ⟨m,e1⟩ : ∃ m,m = n - (l.length : Int):=⟨_,rfl⟩
 have h2 : IntKind.i64.wrap (n - (l.length : Int)) = m:=by rw [e1]; exact aN (by omega) (by omega)
 by_cases h : m < 0
 ·have ef : aH n (wL br l) = -1:=by omega
  simp -implicitDefEqProofs [pN,h2,h,ef]
 have h3:=Js  l hb.1 hb m (by omega) (by omega)
 rw [qm _ _ _ (by omega)] at h3
 have hs:=cj m (l.map br).sum
 obtain ⟨q,e2⟩ : ∃ q,q = aH m (l.map br).sum:=⟨_,rfl⟩
 rw [← e2] at h3 hs
 try simp at h3
 by_cases h4 : q < 0
 ·have ef : aH n (wL br l) = -1:=by omega
  simp only [h4,if_true] at h3
  simp -implicitDefEqProofs [pN,h2,h,h3,ef]
 have ef : aH n (wL br l) = q:=by omega
 simp only [h4,if_false] at h3
 simp -implicitDefEqProofs [pN,h2,h,h3,ef]
 all_goals (repeat' split) <;> first | rfl | omega | (simp_all; done) | (simp_all; omega) | skip
theorem Jx (l : List Wr) (hlen : l.length≤1048576) (hb : wL br l≤1048576) : aK (ai (ev LI TT) (aj TT) tg) [(0,.row .af 2 (l.map eW)),(3,.row .own 2 (cZ (l.map eW) 0 [.int .i64 0,.str ⟨#[]⟩])),(4,.int .i64 0),(6,.int .i64 l.length)] = some (.exit 0,[(0,.row .af 2 (l.map eW)),(3,.row .own 2 (l.map eW)),(4,.int .i64 (l).length),(6,.int .i64 l.length),(11,.bool false)]):=by
 refine eZ (f:=ai (ev LI TT) (aj TT) tg) (l) (fun i=>[(0,.row .af 2 (l.map eW)),(3,.row .own 2 (cZ (l.map eW) i [.int .i64 0,.str ⟨#[]⟩])),(4,.int .i64 i),(6,.int .i64 l.length)]) _ (fun i b hi hl=>?_) ?_
 ·have hw:=aT i (by first | omega | (simp at hl; omega))
  obtain ⟨_,rfl⟩:=List.getElem?_eq_some_iff.1 hi
  have h:=LP  l[i] (Nat.le_trans (gL (List.getElem_mem hl)) hb)
  try simp at h
  simp -implicitDefEqProofs [tg,Cm,hl,hw,h]
  first | done | (rw [jA _ _ _ _ (by simpa using hl) (by simp)]; done) | (simp only [jN]; rw [jA _ _ _ _ (by simpa using hl) (by simp)])
 ·simp -implicitDefEqProofs [tg,Cm]
theorem LQ (l : List Wr) (hb : wL br l≤1048576) : ev LI TT 127 [.row .af 2 (l.map eW)] = some (.row .own 2 (l.map eW),[.dead]):=by
 rw [az (b:=xX) (rs:=[.t 2]) (n:=1) rfl rfl]
 have hlen:=aY (w:=br) l
 have h:=Jx  l (by omega) hb
 try simp at h
 simp -implicitDefEqProofs [xX,h,(by omega : (l.length : Int) * 24≤140737488355328)]
 all_goals (repeat' split) <;> first | rfl | omega | (simp_all; done) | (simp_all; omega) | skip
theorem Jc (ps : List (Wr×Wr)) (hb : ps.length≤9223372036854775807) (dU : ∀ x∈ps,br x.1≤1073741824) : aK (ai (ev LI TT) (aj TT) sL) [(0,.row .af 2 (ps.map (fun x : Wr×Wr=>eW x.1))),(1,.row .af 2 (ps.map (fun x : Wr×Wr=>eW x.2))),(5,.int .i64 0)] = if aZ cL (ps) = true then some (.exit 0,[(0,.row .af 2 (ps.map (fun x : Wr×Wr=>eW x.1))),(1,.row .af 2 (ps.map (fun x : Wr×Wr=>eW x.2))),(5,.int .i64 ps.length),(14,.bool false)]) else some (.ret,[(4,.bool false)]):=by
 refine cO (f:=ai (ev LI TT) (aj TT) sL) (ps) (fun i=>[(0,.row .af 2 (ps.map (fun x : Wr×Wr=>eW x.1))),(1,.row .af 2 (ps.map (fun x : Wr×Wr=>eW x.2))),(5,.int .i64 i)]) cL _ _ (fun i b hi hl=>?_) ?_
 ·have hw:=aT i (by first | omega | (simp at hl; omega))
  obtain ⟨_,rfl⟩:=List.getElem?_eq_some_iff.1 hi
  have h:=Le  (ps[i]).1 (ps[i]).2 (dU _ (List.getElem_mem hl)); try simp at h
  simp -implicitDefEqProofs [sL,B0,hl,hw,cL,h]
 ·simp -implicitDefEqProofs [sL,B0]
theorem Lf (a b : List Wr) (hb : wL br a≤1073741824) : ev LI TT 132 [.row .af 2 (a.map eW),.row .af 2 (b.map eW)] = some (.bool (decide (a = b)),[.dead,.dead]):=by
 rw [az (b:=xo) (rs:=[.t 4]) (n:=2) rfl rfl]
 simp -implicitDefEqProofs [xo]
 have hlen:=aY (w:=br) a
 by_cases h : a.length = b.length
 ·obtain ⟨ps,rfl,rfl⟩:=ov h
  have h1:=Jc  ps (by simp at hlen; omega) (fun x hx=>Nat.le_trans (gL (List.mem_map_of_mem hx)) hb)
  have h2:=mU ps
  simp at h1
  rw [← h2]
  cases h3 : aZ cL ps <;> rw [h3] at h1 <;> simp [h1,Function.comp_def]
 ·have : ¬ a = b:=fun e=>h (by rw [e])
  simp [this]
  omega
theorem Lv (a : cg) (n : Int) (hb : zM a) (hn : 0≤n) (hm : n≤9223372036854775807) : ev LI TT 44 [.agg ((cu .af) a),.int .i64 n] = some (.int .i64 (aH n (bN a)),[.dead,.dead]):=by
 rw [az (b:=pG) (rs:=[.t 4]) (n:=2) rfl rfl]
 have hw : bN a = wL wS a.cells + wL br a.pending:=rfl
 have ht:=cj n (bN a)
 have c1:=zX  a.cells n hb.Rg (by omega) (by omega)
 have s1:=cj n (wL wS a.cells)
 obtain ⟨m1,e1⟩ : ∃ m,m = aH n (wL wS a.cells):=⟨_,rfl⟩
 rw [← e1] at c1 s1
 try simp at c1
 by_cases h1 : m1 < 0
 ·have ef : aH n (bN a) = -1:=by omega
  simp -implicitDefEqProofs [pG,c1,h1,ef]
 have c2:=LD  a.pending m1 hb.Rm (by omega) (by omega)
 have s2:=cj m1 (wL br a.pending)
 obtain ⟨m2,e2⟩ : ∃ m,m = aH m1 (wL br a.pending):=⟨_,rfl⟩
 rw [← e2] at c2 s2
 try simp at c2
 by_cases h2 : m2 < 0
 ·have ef : aH n (bN a) = -1:=by omega
  simp -implicitDefEqProofs [pG,c1,h1,c2,h2,ef]
 have ef : aH n (bN a) = m2:=by omega
 simp -implicitDefEqProofs [pG,c1,h1,c2,h2,ef]
 all_goals (repeat' split) <;> first | rfl | omega | (simp_all; done) | (simp_all; omega) | skip
theorem LH (a : cg) (hb : bN a≤1048576) : ev LI TT 46 [.agg ((cu .af) a)] = some (.agg ((cu .own) a),[.dead]):=by
 rw [az (b:=xO) (rs:=[.c 2 2 true 39]) (n:=1) rfl rfl]
 have hw : bN a = wL wS a.cells + wL br a.pending:=rfl
 have h1:=zY  a.cells (by omega)
 try simp at h1
 have h2:=LQ  a.pending (by omega)
 try simp at h2
 simp -implicitDefEqProofs [xO,h1,h2,hw]
 all_goals (repeat' split) <;> first | rfl | omega | (simp_all; done) | (simp_all; omega) | skip
theorem K8 (a b : cg) (hb : bN a≤1073741824) : ev LI TT 48 [.agg ((cu .af) a),.agg ((cu .af) b)] = some (.bool (decide (a = b)),[.dead,.dead]):=by
 rw [az (b:=pn) (rs:=[.t 4]) (n:=2) rfl rfl]
 have hw : bN a = wL wS a.cells + wL br a.pending:=rfl
 rw [MJ]
 have c1:=zV  a.cells b.cells (by omega)
 cases g1 : decide (a.cells = b.cells)
 ·rw [g1] at c1
  try simp at c1
  simp -implicitDefEqProofs [pn,c1]
 rw [g1] at c1
 try simp at c1
 have c2:=Lf  a.pending b.pending (by omega)
 cases g2 : decide (a.pending = b.pending)
 ·rw [g2] at c2
  try simp at c2
  simp -implicitDefEqProofs [pn,c1,c2]
 rw [g2] at c2
 try simp at c2
 simp -implicitDefEqProofs [pn,c1,c2]
 all_goals (repeat' split) <;> first | rfl | omega | (simp_all; done) | (simp_all; omega) | skip
theorem Lw (a : aL) (n : Int) (hb : mX a) (hn : 0≤n) (hm : n≤9223372036854775807) : ev LI TT 159 [.agg (aI a),.int .i64 n] = some (.int .i64 (aH n (aM a)),[.dead,.dead]):=by
 rw [az (b:=pI) (rs:=[.t 4]) (n:=2) rfl rfl]
 have hw : aM a = a.name.length + a.value.length:=rfl
 have ht:=cj n (aM a)
 have oR : a.name.length≤9223372036854775807:=hb.Rj
 obtain ⟨m1,e1⟩ : ∃ m,m = n - (a.name.length : Int):=⟨_,rfl⟩
 have c1 : IntKind.i64.wrap (n - (a.name.length : Int)) = m1:=by rw [e1]; exact aN (by omega) (by omega)
 by_cases h1 : m1 < 0
 ·have ef : aH n (aM a) = -1:=by omega
  simp -implicitDefEqProofs [pI,c1,h1,ef]
 have l8 : a.value.length≤9223372036854775807:=hb.Rr
 obtain ⟨m2,e2⟩ : ∃ m,m = m1 - (a.value.length : Int):=⟨_,rfl⟩
 have c2 : IntKind.i64.wrap (m1 - (a.value.length : Int)) = m2:=by rw [e2]; exact aN (by omega) (by omega)
 by_cases h2 : m2 < 0
 ·have ef : aH n (aM a) = -1:=by omega
  simp -implicitDefEqProofs [pI,c1,h1,c2,h2,ef]
 have ef : aH n (aM a) = m2:=by omega
 simp -implicitDefEqProofs [pI,c1,h1,c2,h2,ef]
 all_goals (repeat' split) <;> first | rfl | omega | (simp_all; done) | (simp_all; omega) | skip
theorem LJ (a : aL) (hb : aM a≤1048576) : ev LI TT 167 [.agg (aI a)] = some (.agg (aI a),[.dead]):=by
 rw [az (b:=xQ) (rs:=[.c 2 2 true 214]) (n:=1) rfl rfl]
 have hw : aM a = a.name.length + a.value.length:=rfl
 simp -implicitDefEqProofs [xQ,hw]
 all_goals (repeat' split) <;> first | rfl | omega | (simp_all; done) | (simp_all; omega) | skip
theorem K9 (a b : aL) (hb : aM a≤1073741824) : ev LI TT 171 [.agg (aI a),.agg (aI b)] = some (.bool (decide (a = b)),[.dead,.dead]):=by
 rw [az (b:=pq) (rs:=[.t 4]) (n:=2) rfl rfl]
 have hw : aM a = a.name.length + a.value.length:=rfl
 rw [MK]
 by_cases g1 : a.name = b.name
 rotate_left
 ·simp -implicitDefEqProofs [pq,eq_false g1]
 by_cases g2 : a.value = b.value
 rotate_left
 ·simp -implicitDefEqProofs [pq,eq_true g1,eq_false g2]
 simp -implicitDefEqProofs [pq,eq_true g1,eq_true g2]
 all_goals (repeat' split) <;> first | rfl | omega | (simp_all; done) | (simp_all; omega) | skip
theorem Jp (l : List aL) (hlen : l.length≤9223372036854775807) (hb : bL mX l) (n : Int) (hn : 0≤n) (hm : n≤9223372036854775807) : aK (ai (ev LI TT) (aj TT) sZ) [(0,.row .af 2 (l.map (aI))),(1,.int .i64 n),(5,.int .i64 0)] = if dM (fun b n=>aH n (aM b)) (l) n < 0 then some (.ret,[(4,.int .i64 (-1))]) else some (.exit 0,[(0,.row .af 2 (l.map (aI))),(1,.int .i64 (dM (fun b n=>aH n (aM b)) (l) n)),(5,.int .i64 (l).length),(15,.bool false)]):=by
 refine tB (f:=ai (ev LI TT) (aj TT) sZ) (l) (fun i n=>[(0,.row .af 2 (l.map (aI))),(1,.int .i64 n),(5,.int .i64 i)]) (fun b n=>aH n (aM b)) _ (fun n=>[(0,.row .af 2 (l.map (aI))),(1,.int .i64 n),(5,.int .i64 (l).length),(15,.bool false)]) n hn hm (fun b n=>uM _ n) (fun i b n hi hl hn hm=>?_) (fun n=>?_)
 ·have hw:=aT i (by first | omega | (simp at hl; omega))
  obtain ⟨_,rfl⟩:=List.getElem?_eq_some_iff.1 hi
  have h2:=Lw  l[i] n (hb.2 _ (List.getElem_mem hl)) hn hm
  obtain ⟨m,e1⟩ : ∃ m,m = aH n (aM l[i]):=⟨_,rfl⟩
  rw [← e1] at h2 ⊢
  try simp at h2
  simp -implicitDefEqProofs [sZ,Cf,hl,hw,h2]
 ·simp -implicitDefEqProofs [sZ,Cf]
theorem Lx (l : List aL) (n : Int) (hb : bL mX l) (hn : 0≤n) (hm : n≤9223372036854775807) : ev LI TT 69 [.row .af 2 (l.map (aI)),.int .i64 n] = some (.int .i64 (aH n (wL aM l)),[.dead,.dead]):=by
 rw [az (b:=pH) (rs:=[.t 4]) (n:=2) rfl rfl]
 have hl:=hb.1
 have hw : wL aM l = l.length + (l.map aM).sum:=rfl
 have ht:=cj n (wL aM l)
 obtain ⟨m,e1⟩ : ∃ m,m = n - (l.length : Int):=⟨_,rfl⟩
 have h2 : IntKind.i64.wrap (n - (l.length : Int)) = m:=by rw [e1]; exact aN (by omega) (by omega)
 by_cases h : m < 0
 ·have ef : aH n (wL aM l) = -1:=by omega
  simp -implicitDefEqProofs [pH,h2,h,ef]
 have h3:=Jp  l hb.1 hb m (by omega) (by omega)
 rw [qm _ _ _ (by omega)] at h3
 have hs:=cj m (l.map aM).sum
 obtain ⟨q,e2⟩ : ∃ q,q = aH m (l.map aM).sum:=⟨_,rfl⟩
 rw [← e2] at h3 hs
 try simp at h3
 by_cases h4 : q < 0
 ·have ef : aH n (wL aM l) = -1:=by omega
  simp only [h4,if_true] at h3
  simp -implicitDefEqProofs [pH,h2,h,h3,ef]
 have ef : aH n (wL aM l) = q:=by omega
 simp only [h4,if_false] at h3
 simp -implicitDefEqProofs [pH,h2,h,h3,ef]
 all_goals (repeat' split) <;> first | rfl | omega | (simp_all; done) | (simp_all; omega) | skip
theorem Ju (l : List aL) (hlen : l.length≤1048576) (hb : wL aM l≤1048576) : aK (ai (ev LI TT) (aj TT) tc) [(0,.row .af 2 (l.map aI)),(3,.row .own 2 (cZ (l.map aI) 0 [.str ⟨#[]⟩,.str ⟨#[]⟩])),(4,.int .i64 0),(6,.int .i64 l.length)] = some (.exit 0,[(0,.row .af 2 (l.map aI)),(3,.row .own 2 (l.map aI)),(4,.int .i64 (l).length),(6,.int .i64 l.length),(11,.bool false)]):=by
 refine eZ (f:=ai (ev LI TT) (aj TT) tc) (l) (fun i=>[(0,.row .af 2 (l.map aI)),(3,.row .own 2 (cZ (l.map aI) i [.str ⟨#[]⟩,.str ⟨#[]⟩])),(4,.int .i64 i),(6,.int .i64 l.length)]) _ (fun i b hi hl=>?_) ?_
 ·have hw:=aT i (by first | omega | (simp at hl; omega))
  obtain ⟨_,rfl⟩:=List.getElem?_eq_some_iff.1 hi
  have h:=LJ  l[i] (Nat.le_trans (gL (List.getElem_mem hl)) hb)
  try simp at h
  simp -implicitDefEqProofs [tc,Cj,hl,hw,h]
  first | done | (rw [jA _ _ _ _ (by simpa using hl) (by simp)]; done) | (simp only [jN]; rw [jA _ _ _ _ (by simpa using hl) (by simp)])
 ·simp -implicitDefEqProofs [tc,Cj]
theorem LK (l : List aL) (hb : wL aM l≤1048576) : ev LI TT 75 [.row .af 2 (l.map aI)] = some (.row .own 2 (l.map aI),[.dead]):=by
 rw [az (b:=xP) (rs:=[.t 2]) (n:=1) rfl rfl]
 have hlen:=aY (w:=aM) l
 have h:=Ju  l (by omega) hb
 try simp at h
 simp -implicitDefEqProofs [xP,h,(by omega : (l.length : Int) * 32≤140737488355328)]
 all_goals (repeat' split) <;> first | rfl | omega | (simp_all; done) | (simp_all; omega) | skip
theorem I9 (ps : List (aL×aL)) (hb : ps.length≤9223372036854775807) (dU : ∀ x∈ps,aM x.1≤1073741824) : aK (ai (ev LI TT) (aj TT) sI) [(0,.row .af 2 (ps.map (fun x : aL×aL=>aI x.1))),(1,.row .af 2 (ps.map (fun x : aL×aL=>aI x.2))),(5,.int .i64 0)] = if aZ cL (ps) = true then some (.exit 0,[(0,.row .af 2 (ps.map (fun x : aL×aL=>aI x.1))),(1,.row .af 2 (ps.map (fun x : aL×aL=>aI x.2))),(5,.int .i64 ps.length),(14,.bool false)]) else some (.ret,[(4,.bool false)]):=by
 refine cO (f:=ai (ev LI TT) (aj TT) sI) (ps) (fun i=>[(0,.row .af 2 (ps.map (fun x : aL×aL=>aI x.1))),(1,.row .af 2 (ps.map (fun x : aL×aL=>aI x.2))),(5,.int .i64 i)]) cL _ _ (fun i b hi hl=>?_) ?_
 ·have hw:=aT i (by first | omega | (simp at hl; omega))
  obtain ⟨_,rfl⟩:=List.getElem?_eq_some_iff.1 hi
  have h:=K9  (ps[i]).1 (ps[i]).2 (dU _ (List.getElem_mem hl)); try simp at h
  simp -implicitDefEqProofs [sI,BW,hl,hw,cL,h]
 ·simp -implicitDefEqProofs [sI,BW]
theorem La (a b : List aL) (hb : wL aM a≤1073741824) : ev LI TT 81 [.row .af 2 (a.map aI),.row .af 2 (b.map aI)] = some (.bool (decide (a = b)),[.dead,.dead]):=by
 rw [az (b:=xk) (rs:=[.t 4]) (n:=2) rfl rfl]
 simp -implicitDefEqProofs [xk]
 have hlen:=aY (w:=aM) a
 by_cases h : a.length = b.length
 ·obtain ⟨ps,rfl,rfl⟩:=ov h
  have h1:=I9  ps (by simp at hlen; omega) (fun x hx=>Nat.le_trans (gL (List.mem_map_of_mem hx)) hb)
  have h2:=mU ps
  simp at h1
  rw [← h2]
  cases h3 : aZ cL ps <;> rw [h3] at h1 <;> simp [h1,Function.comp_def]
 ·have : ¬ a = b:=fun e=>h (by rw [e])
  simp [this]
  omega
theorem LA (a : bY) (n : Int) (hb : oB a) (hn : 0≤n) (hm : n≤9223372036854775807) : ev LI TT 106 [.agg ((dS .af) a),.int .i64 n] = some (.int .i64 (aH n (bD a)),[.dead,.dead]):=by
 rw [az (b:=pK) (rs:=[.t 4]) (n:=2) rfl rfl]
 have hw : bD a = wL aM a.fields + a.body.length:=rfl
 have ht:=cj n (bD a)
 have c1:=Lx  a.fields n hb.GJ (by omega) (by omega)
 have s1:=cj n (wL aM a.fields)
 obtain ⟨m1,e1⟩ : ∃ m,m = aH n (wL aM a.fields):=⟨_,rfl⟩
 rw [← e1] at c1 s1
 try simp at c1
 by_cases h1 : m1 < 0
 ·have ef : aH n (bD a) = -1:=by omega
  simp -implicitDefEqProofs [pK,c1,h1,ef]
 have l8 : a.body.length≤9223372036854775807:=hb.GI
 obtain ⟨m2,e2⟩ : ∃ m,m = m1 - (a.body.length : Int):=⟨_,rfl⟩
 have c2 : IntKind.i64.wrap (m1 - (a.body.length : Int)) = m2:=by rw [e2]; exact aN (by omega) (by omega)
 by_cases h2 : m2 < 0
 ·have ef : aH n (bD a) = -1:=by omega
  simp -implicitDefEqProofs [pK,c1,h1,c2,h2,ef]
 have ef : aH n (bD a) = m2:=by omega
 simp -implicitDefEqProofs [pK,c1,h1,c2,h2,ef]
 all_goals (repeat' split) <;> first | rfl | omega | (simp_all; done) | (simp_all; omega) | skip
theorem LN (a : bY) (hb : bD a≤1048576) : ev LI TT 112 [.agg ((dS .af) a)] = some (.agg ((dS .own) a),[.dead]):=by
 rw [az (b:=xU) (rs:=[.c 2 3 true 59]) (n:=1) rfl rfl]
 have hw : bD a = wL aM a.fields + a.body.length:=rfl
 have h1:=LK  a.fields (by omega)
 try simp at h1
 simp -implicitDefEqProofs [xU,h1,hw]
 all_goals (repeat' split) <;> first | rfl | omega | (simp_all; done) | (simp_all; omega) | skip
theorem Ld (a b : bY) (hb : bD a≤1073741824) : ev LI TT 78 [.agg ((dS .af) a),.agg ((dS .af) b)] = some (.bool (decide (a = b)),[.dead,.dead]):=by
 rw [az (b:=nS) (rs:=[.t 4]) (n:=2) rfl rfl]
 have hw : bD a = wL aM a.fields + a.body.length:=rfl
 rw [MO]
 by_cases g1 : a.status = b.status
 rotate_left
 ·simp -implicitDefEqProofs [nS,eq_false g1]
 have c2:=La  a.fields b.fields (by omega)
 cases g2 : decide (a.fields = b.fields)
 ·rw [g2] at c2
  try simp at c2
  simp -implicitDefEqProofs [nS,eq_true g1,c2]
 rw [g2] at c2
 try simp at c2
 by_cases g3 : a.body = b.body
 rotate_left
 ·simp -implicitDefEqProofs [nS,eq_true g1,c2,eq_false g3]
 simp -implicitDefEqProofs [nS,eq_true g1,c2,eq_true g3]
 all_goals (repeat' split) <;> first | rfl | omega | (simp_all; done) | (simp_all; omega) | skip
theorem EC (a : Ob) (n : Int) (hb : mY a) (hn : 0≤n) (hm : n≤9223372036854775807) : ev LI TT 38 [.agg ((bq .af) a),.int .i64 n] = some (.int .i64 (aH n (aU a)),[.dead,.dead]):=by
 rw [az (b:=mA) (rs:=[.t 4]) (n:=2) rfl rfl]
 have hw : aU a = a.path.length + wL wS a.names + wL wS a.values + bD a.resp:=rfl
 have ht:=cj n (aU a)
 have oR : a.path.length≤9223372036854775807:=hb.GM
 obtain ⟨m1,e1⟩ : ∃ m,m = n - (a.path.length : Int):=⟨_,rfl⟩
 have c1 : IntKind.i64.wrap (n - (a.path.length : Int)) = m1:=by rw [e1]; exact aN (by omega) (by omega)
 by_cases h1 : m1 < 0
 ·have ef : aH n (aU a) = -1:=by omega
  simp -implicitDefEqProofs [mA,c1,h1,ef]
 have c2:=zX  a.names m1 hb.Rk (by omega) (by omega)
 have s2:=cj m1 (wL wS a.names)
 obtain ⟨m2,e2⟩ : ∃ m,m = aH m1 (wL wS a.names):=⟨_,rfl⟩
 rw [← e2] at c2 s2
 try simp at c2
 by_cases h2 : m2 < 0
 ·have ef : aH n (aU a) = -1:=by omega
  simp -implicitDefEqProofs [mA,c1,h1,c2,h2,ef]
 have c3:=zX  a.values m2 hb.Rs (by omega) (by omega)
 have s3:=cj m2 (wL wS a.values)
 obtain ⟨m3,e3⟩ : ∃ m,m = aH m2 (wL wS a.values):=⟨_,rfl⟩
 rw [← e3] at c3 s3
 try simp at c3
 by_cases h3 : m3 < 0
 ·have ef : aH n (aU a) = -1:=by omega
  simp -implicitDefEqProofs [mA,c1,h1,c2,h2,c3,h3,ef]
 have c4:=LA  a.resp m3 hb.xh (by omega) (by omega)
 have s4:=cj m3 (bD a.resp)
 obtain ⟨m4,e4⟩ : ∃ m,m = aH m3 (bD a.resp):=⟨_,rfl⟩
 rw [← e4] at c4 s4
 try simp at c4
 by_cases h4 : m4 < 0
 ·have ef : aH n (aU a) = -1:=by omega
  simp -implicitDefEqProofs [mA,c1,h1,c2,h2,c3,h3,c4,h4,ef]
 have ef : aH n (aU a) = m4:=by omega
 simp -implicitDefEqProofs [mA,c1,h1,c2,h2,c3,h3,c4,h4,ef]
 all_goals (repeat' split) <;> first | rfl | omega | (simp_all; done) | (simp_all; omega) | skip
theorem ED (a : Ob) (hb : aU a≤1048576) : ev LI TT 40 [.agg ((bq .af) a)] = some (.agg ((bq .own) a),[.dead]):=by
 rw [az (b:=xT) (rs:=[.c 2 7 true 61]) (n:=1) rfl rfl]
 have hw : aU a = a.path.length + wL wS a.names + wL wS a.values + bD a.resp:=rfl
 have h1:=zY  a.names (by omega)
 try simp at h1
 have h2:=zY  a.values (by omega)
 try simp at h2
 have h3:=LN  a.resp (by omega)
 try simp at h3
 simp -implicitDefEqProofs [xT,h1,h2,h3,hw]
 all_goals (repeat' split) <;> first | rfl | omega | (simp_all; done) | (simp_all; omega) | skip
theorem Ey (a b : Ob) (hb : aU a≤1073741824) : ev LI TT 24 [.agg ((bq .af) a),.agg ((bq .af) b)] = some (.bool (decide (a = b)),[.dead,.dead]):=by
 rw [az (b:=kO) (rs:=[.t 4]) (n:=2) rfl rfl]
 have hw : aU a = a.path.length + wL wS a.names + wL wS a.values + bD a.resp:=rfl
 rw [MN]
 by_cases g1 : a.path = b.path
 rotate_left
 ·simp -implicitDefEqProofs [kO,eq_false g1]
 have c2:=zV  a.names b.names (by omega)
 cases g2 : decide (a.names = b.names)
 ·rw [g2] at c2
  try simp at c2
  simp -implicitDefEqProofs [kO,eq_true g1,c2]
 rw [g2] at c2
 try simp at c2
 have c3:=zV  a.values b.values (by omega)
 cases g3 : decide (a.values = b.values)
 ·rw [g3] at c3
  try simp at c3
  simp -implicitDefEqProofs [kO,eq_true g1,c2,c3]
 rw [g3] at c3
 try simp at c3
 have c4:=Ld  a.resp b.resp (by omega)
 cases g4 : decide (a.resp = b.resp)
 ·rw [g4] at c4
  try simp at c4
  simp -implicitDefEqProofs [kO,eq_true g1,c2,c3,c4]
 rw [g4] at c4
 try simp at c4
 by_cases g5 : a.t = b.t
 rotate_left
 ·simp -implicitDefEqProofs [kO,eq_true g1,c2,c3,c4,eq_false g5]
 simp -implicitDefEqProofs [kO,eq_true g1,c2,c3,c4,eq_true g5]
 all_goals (repeat' split) <;> first | rfl | omega | (simp_all; done) | (simp_all; omega) | skip
theorem Ly (a : Kp) (n : Int) (hb : oA a) (hn : 0≤n) (hm : n≤9223372036854775807) : ev LI TT 158 [.agg ((aB .af) a),.int .i64 n] = some (.int .i64 (aH n (aR a)),[.dead,.dead]):=by
 rw [az (b:=s6) (rs:=[.t 4]) (n:=2) rfl rfl]
 have hw : aR a = aU a.obj:=rfl
 have ht:=cj n (aR a)
 have c1:=EC  a.obj n hb.GL (by omega) (by omega)
 have s1:=cj n (aU a.obj)
 obtain ⟨m1,e1⟩ : ∃ m,m = aH n (aU a.obj):=⟨_,rfl⟩
 rw [← e1] at c1 s1
 try simp at c1
 by_cases h1 : m1 < 0
 ·have ef : aH n (aR a) = -1:=by omega
  simp -implicitDefEqProofs [s6,c1,h1,ef]
 have ef : aH n (aR a) = m1:=by omega
 simp -implicitDefEqProofs [s6,c1,h1,ef]
 all_goals (repeat' split) <;> first | rfl | omega | (simp_all; done) | (simp_all; omega) | skip
theorem LL (a : Kp) (hb : aR a≤1048576) : ev LI TT 166 [.agg ((aB .af) a)] = some (.agg ((aB .own) a),[.dead]):=by
 rw [az (b:=xS) (rs:=[.c 2 9 true 108]) (n:=1) rfl rfl]
 have hw : aR a = aU a.obj:=rfl
 have h1:=ED  a.obj (by omega)
 try simp at h1
 simp -implicitDefEqProofs [xS,h1,hw]
 all_goals (repeat' split) <;> first | rfl | omega | (simp_all; done) | (simp_all; omega) | skip
theorem Lb (a b : Kp) (hb : aR a≤1073741824) : ev LI TT 169 [.agg ((aB .af) a),.agg ((aB .af) b)] = some (.bool (decide (a = b)),[.dead,.dead]):=by
 rw [az (b:=nR) (rs:=[.t 4]) (n:=2) rfl rfl]
 have hw : aR a = aU a.obj:=rfl
 rw [ML]
 have c1:=Ey  a.obj b.obj (by omega)
 cases g1 : decide (a.obj = b.obj)
 ·rw [g1] at c1
  try simp at c1
  simp -implicitDefEqProofs [nR,c1]
 rw [g1] at c1
 try simp at c1
 by_cases g2 : a.at_ = b.at_
 rotate_left
 ·simp -implicitDefEqProofs [nR,c1,eq_false g2]
 by_cases g3 : a.seq = b.seq
 rotate_left
 ·simp -implicitDefEqProofs [nR,c1,eq_true g2,eq_false g3]
 simp -implicitDefEqProofs [nR,c1,eq_true g2,eq_true g3]
 all_goals (repeat' split) <;> first | rfl | omega | (simp_all; done) | (simp_all; omega) | skip
theorem Jq (l : List Kp) (hlen : l.length≤9223372036854775807) (hb : bL oA l) (n : Int) (hn : 0≤n) (hm : n≤9223372036854775807) : aK (ai (ev LI TT) (aj TT) s5) [(0,.row .af 9 (l.map (aB .af))),(1,.int .i64 n),(5,.int .i64 0)] = if dM (fun b n=>aH n (aR b)) (l) n < 0 then some (.ret,[(4,.int .i64 (-1))]) else some (.exit 0,[(0,.row .af 9 (l.map (aB .af))),(1,.int .i64 (dM (fun b n=>aH n (aR b)) (l) n)),(5,.int .i64 (l).length),(15,.bool false)]):=by
 refine tB (f:=ai (ev LI TT) (aj TT) s5) (l) (fun i n=>[(0,.row .af 9 (l.map (aB .af))),(1,.int .i64 n),(5,.int .i64 i)]) (fun b n=>aH n (aR b)) _ (fun n=>[(0,.row .af 9 (l.map (aB .af))),(1,.int .i64 n),(5,.int .i64 (l).length),(15,.bool false)]) n hn hm (fun b n=>uM _ n) (fun i b n hi hl hn hm=>?_) (fun n=>?_)
 ·have hw:=aT i (by first | omega | (simp at hl; omega))
  obtain ⟨_,rfl⟩:=List.getElem?_eq_some_iff.1 hi
  have h2:=Ly  l[i] n (hb.2 _ (List.getElem_mem hl)) hn hm
  obtain ⟨m,e1⟩ : ∃ m,m = aH n (aR l[i]):=⟨_,rfl⟩
  rw [← e1] at h2 ⊢
  try simp at h2
  simp -implicitDefEqProofs [s5,Cg,hl,hw,h2]
 ·simp -implicitDefEqProofs [s5,Cg]
theorem Lz (l : List Kp) (n : Int) (hb : bL oA l) (hn : 0≤n) (hm : n≤9223372036854775807) : ev LI TT 67 [.row .af 9 (l.map (aB .af)),.int .i64 n] = some (.int .i64 (aH n (wL aR l)),[.dead,.dead]):=by
 rw [az (b:=pJ) (rs:=[.t 4]) (n:=2) rfl rfl]
 have hl:=hb.1
 have hw : wL aR l = l.length + (l.map aR).sum:=rfl
 have ht:=cj n (wL aR l)
 obtain ⟨m,e1⟩ : ∃ m,m = n - (l.length : Int):=⟨_,rfl⟩
 have h2 : IntKind.i64.wrap (n - (l.length : Int)) = m:=by rw [e1]; exact aN (by omega) (by omega)
 by_cases h : m < 0
 ·have ef : aH n (wL aR l) = -1:=by omega
  simp -implicitDefEqProofs [pJ,h2,h,ef]
 have h3:=Jq  l hb.1 hb m (by omega) (by omega)
 rw [qm _ _ _ (by omega)] at h3
 have hs:=cj m (l.map aR).sum
 obtain ⟨q,e2⟩ : ∃ q,q = aH m (l.map aR).sum:=⟨_,rfl⟩
 rw [← e2] at h3 hs
 try simp at h3
 by_cases h4 : q < 0
 ·have ef : aH n (wL aR l) = -1:=by omega
  simp only [h4,if_true] at h3
  simp -implicitDefEqProofs [pJ,h2,h,h3,ef]
 have ef : aH n (wL aR l) = q:=by omega
 simp only [h4,if_false] at h3
 simp -implicitDefEqProofs [pJ,h2,h,h3,ef]
 all_goals (repeat' split) <;> first | rfl | omega | (simp_all; done) | (simp_all; omega) | skip
theorem Jv (l : List Kp) (hlen : l.length≤1048576) (hb : wL aR l≤1048576) : aK (ai (ev LI TT) (aj TT) td) [(0,.row .af 9 (l.map (aB .af))),(3,.row .own 9 (cZ (l.map (aB .own)) 0 [.str ⟨#[]⟩,.row .own 1 [],.row .own 1 [],.int .i64 0,.row .own 2 [],.str ⟨#[]⟩,.int .i64 0,.int .i64 0,.int .i64 0])),(4,.int .i64 0),(6,.int .i64 l.length)] = some (.exit 0,[(0,.row .af 9 (l.map (aB .af))),(3,.row .own 9 (l.map (aB .own))),(4,.int .i64 (l).length),(6,.int .i64 l.length),(11,.bool false)]):=by
 refine eZ (f:=ai (ev LI TT) (aj TT) td) (l) (fun i=>[(0,.row .af 9 (l.map (aB .af))),(3,.row .own 9 (cZ (l.map (aB .own)) i [.str ⟨#[]⟩,.row .own 1 [],.row .own 1 [],.int .i64 0,.row .own 2 [],.str ⟨#[]⟩,.int .i64 0,.int .i64 0,.int .i64 0])),(4,.int .i64 i),(6,.int .i64 l.length)]) _ (fun i b hi hl=>?_) ?_
 ·have hw:=aT i (by first | omega | (simp at hl; omega))
  obtain ⟨_,rfl⟩:=List.getElem?_eq_some_iff.1 hi
  have h:=LL  l[i] (Nat.le_trans (gL (List.getElem_mem hl)) hb)
  try simp at h
  simp -implicitDefEqProofs [td,Ck,hl,hw,h]
  first | done | (rw [jA _ _ _ _ (by simpa using hl) (by simp)]; done) | (simp only [jN]; rw [jA _ _ _ _ (by simpa using hl) (by simp)])
 ·simp -implicitDefEqProofs [td,Ck]
theorem LM (l : List Kp) (hb : wL aR l≤1048576) : ev LI TT 73 [.row .af 9 (l.map (aB .af))] = some (.row .own 9 (l.map (aB .own)),[.dead]):=by
 rw [az (b:=xR) (rs:=[.t 2]) (n:=1) rfl rfl]
 have hlen:=aY (w:=aR) l
 have h:=Jv  l (by omega) hb
 try simp at h
 simp -implicitDefEqProofs [xR,h,(by omega : (l.length : Int) * 136≤140737488355328)]
 all_goals (repeat' split) <;> first | rfl | omega | (simp_all; done) | (simp_all; omega) | skip
theorem Ja (ps : List (Kp×Kp)) (hb : ps.length≤9223372036854775807) (dU : ∀ x∈ps,aR x.1≤1073741824) : aK (ai (ev LI TT) (aj TT) sJ) [(0,.row .af 9 (ps.map (fun x : Kp×Kp=>(aB .af) x.1))),(1,.row .af 9 (ps.map (fun x : Kp×Kp=>(aB .af) x.2))),(5,.int .i64 0)] = if aZ cL (ps) = true then some (.exit 0,[(0,.row .af 9 (ps.map (fun x : Kp×Kp=>(aB .af) x.1))),(1,.row .af 9 (ps.map (fun x : Kp×Kp=>(aB .af) x.2))),(5,.int .i64 ps.length),(14,.bool false)]) else some (.ret,[(4,.bool false)]):=by
 refine cO (f:=ai (ev LI TT) (aj TT) sJ) (ps) (fun i=>[(0,.row .af 9 (ps.map (fun x : Kp×Kp=>(aB .af) x.1))),(1,.row .af 9 (ps.map (fun x : Kp×Kp=>(aB .af) x.2))),(5,.int .i64 i)]) cL _ _ (fun i b hi hl=>?_) ?_
 ·have hw:=aT i (by first | omega | (simp at hl; omega))
  obtain ⟨_,rfl⟩:=List.getElem?_eq_some_iff.1 hi
  have h:=Lb  (ps[i]).1 (ps[i]).2 (dU _ (List.getElem_mem hl)); try simp at h
  simp -implicitDefEqProofs [sJ,BX,hl,hw,cL,h]
 ·simp -implicitDefEqProofs [sJ,BX]
theorem Lc (a b : List Kp) (hb : wL aR a≤1073741824) : ev LI TT 79 [.row .af 9 (a.map (aB .af)),.row .af 9 (b.map (aB .af))] = some (.bool (decide (a = b)),[.dead,.dead]):=by
 rw [az (b:=xl) (rs:=[.t 4]) (n:=2) rfl rfl]
 simp -implicitDefEqProofs [xl]
 have hlen:=aY (w:=aR) a
 by_cases h : a.length = b.length
 ·obtain ⟨ps,rfl,rfl⟩:=ov h
  have h1:=Ja  ps (by simp at hlen; omega) (fun x hx=>Nat.le_trans (gL (List.mem_map_of_mem hx)) hb)
  have h2:=mU ps
  simp at h1
  rw [← h2]
  cases h3 : aZ cL ps <;> rw [h3] at h1 <;> simp [h1,Function.comp_def]
 ·have : ¬ a = b:=fun e=>h (by rw [e])
  simp [this]
  omega
theorem Lt (a : Bn) (n : Int) (hb : mW a) (hn : 0≤n) (hm : n≤9223372036854775807) : ev LI TT 33 [.agg (aQ a),.int .i64 n] = some (.int .i64 (aH n (aP a)),[.dead,.dead]):=by
 rw [az (b:=pF) (rs:=[.t 4]) (n:=2) rfl rfl]
 have hw : aP a = a.a.length + a.b.length:=rfl
 have ht:=cj n (aP a)
 have oR : a.a.length≤9223372036854775807:=hb.GG
 obtain ⟨m1,e1⟩ : ∃ m,m = n - (a.a.length : Int):=⟨_,rfl⟩
 have c1 : IntKind.i64.wrap (n - (a.a.length : Int)) = m1:=by rw [e1]; exact aN (by omega) (by omega)
 by_cases h1 : m1 < 0
 ·have ef : aH n (aP a) = -1:=by omega
  simp -implicitDefEqProofs [pF,c1,h1,ef]
 have l8 : a.b.length≤9223372036854775807:=hb.Rf
 obtain ⟨m2,e2⟩ : ∃ m,m = m1 - (a.b.length : Int):=⟨_,rfl⟩
 have c2 : IntKind.i64.wrap (m1 - (a.b.length : Int)) = m2:=by rw [e2]; exact aN (by omega) (by omega)
 by_cases h2 : m2 < 0
 ·have ef : aH n (aP a) = -1:=by omega
  simp -implicitDefEqProofs [pF,c1,h1,c2,h2,ef]
 have ef : aH n (aP a) = m2:=by omega
 simp -implicitDefEqProofs [pF,c1,h1,c2,h2,ef]
 all_goals (repeat' split) <;> first | rfl | omega | (simp_all; done) | (simp_all; omega) | skip
theorem LF (a : Bn) (hb : aP a≤1048576) : ev LI TT 35 [.agg (aQ a)] = some (.agg (aQ a),[.dead]):=by
 rw [az (b:=xN) (rs:=[.c 2 4 true 83]) (n:=1) rfl rfl]
 have hw : aP a = a.a.length + a.b.length:=rfl
 simp -implicitDefEqProofs [xN,hw]
 all_goals (repeat' split) <;> first | rfl | omega | (simp_all; done) | (simp_all; omega) | skip
theorem K6 (a b : Bn) (hb : aP a≤1073741824) : ev LI TT 170 [.agg (aQ a),.agg (aQ b)] = some (.bool (decide (a = b)),[.dead,.dead]):=by
 rw [az (b:=mz) (rs:=[.t 4]) (n:=2) rfl rfl]
 have hw : aP a = a.a.length + a.b.length:=rfl
 rw [MI]
 by_cases g1 : a.kind = b.kind
 rotate_left
 ·simp -implicitDefEqProofs [mz,eq_false g1]
 by_cases g2 : a.a = b.a
 rotate_left
 ·simp -implicitDefEqProofs [mz,eq_true g1,eq_false g2]
 by_cases g3 : a.b = b.b
 rotate_left
 ·simp -implicitDefEqProofs [mz,eq_true g1,eq_true g2,eq_false g3]
 by_cases g4 : a.t = b.t
 rotate_left
 ·simp -implicitDefEqProofs [mz,eq_true g1,eq_true g2,eq_true g3,eq_false g4]
 simp -implicitDefEqProofs [mz,eq_true g1,eq_true g2,eq_true g3,eq_true g4]
 all_goals (repeat' split) <;> first | rfl | omega | (simp_all; done) | (simp_all; omega) | skip
theorem Jo (l : List Bn) (hlen : l.length≤9223372036854775807) (hb : bL mW l) (n : Int) (hn : 0≤n) (hm : n≤9223372036854775807) : aK (ai (ev LI TT) (aj TT) sY) [(0,.row .af 4 (l.map (aQ))),(1,.int .i64 n),(5,.int .i64 0)] = if dM (fun b n=>aH n (aP b)) (l) n < 0 then some (.ret,[(4,.int .i64 (-1))]) else some (.exit 0,[(0,.row .af 4 (l.map (aQ))),(1,.int .i64 (dM (fun b n=>aH n (aP b)) (l) n)),(5,.int .i64 (l).length),(15,.bool false)]):=by
 refine tB (f:=ai (ev LI TT) (aj TT) sY) (l) (fun i n=>[(0,.row .af 4 (l.map (aQ))),(1,.int .i64 n),(5,.int .i64 i)]) (fun b n=>aH n (aP b)) _ (fun n=>[(0,.row .af 4 (l.map (aQ))),(1,.int .i64 n),(5,.int .i64 (l).length),(15,.bool false)]) n hn hm (fun b n=>uM _ n) (fun i b n hi hl hn hm=>?_) (fun n=>?_)
 ·have hw:=aT i (by first | omega | (simp at hl; omega))
  obtain ⟨_,rfl⟩:=List.getElem?_eq_some_iff.1 hi
  have h2:=Lt  l[i] n (hb.2 _ (List.getElem_mem hl)) hn hm
  obtain ⟨m,e1⟩ : ∃ m,m = aH n (aP l[i]):=⟨_,rfl⟩
  rw [← e1] at h2 ⊢
  try simp at h2
  simp -implicitDefEqProofs [sY,Ce,hl,hw,h2]
 ·simp -implicitDefEqProofs [sY,Ce]
theorem Lu (l : List Bn) (n : Int) (hb : bL mW l) (hn : 0≤n) (hm : n≤9223372036854775807) : ev LI TT 68 [.row .af 4 (l.map (aQ)),.int .i64 n] = some (.int .i64 (aH n (wL aP l)),[.dead,.dead]):=by
 rw [az (b:=pE) (rs:=[.t 4]) (n:=2) rfl rfl]
 have hl:=hb.1
 have hw : wL aP l = l.length + (l.map aP).sum:=rfl
 have ht:=cj n (wL aP l)
 obtain ⟨m,e1⟩ : ∃ m,m = n - (l.length : Int):=⟨_,rfl⟩
 have h2 : IntKind.i64.wrap (n - (l.length : Int)) = m:=by rw [e1]; exact aN (by omega) (by omega)
 by_cases h : m < 0
 ·have ef : aH n (wL aP l) = -1:=by omega
  simp -implicitDefEqProofs [pE,h2,h,ef]
 have h3:=Jo  l hb.1 hb m (by omega) (by omega)
 rw [qm _ _ _ (by omega)] at h3
 have hs:=cj m (l.map aP).sum
 obtain ⟨q,e2⟩ : ∃ q,q = aH m (l.map aP).sum:=⟨_,rfl⟩
 rw [← e2] at h3 hs
 try simp at h3
 by_cases h4 : q < 0
 ·have ef : aH n (wL aP l) = -1:=by omega
  simp only [h4,if_true] at h3
  simp -implicitDefEqProofs [pE,h2,h,h3,ef]
 have ef : aH n (wL aP l) = q:=by omega
 simp only [h4,if_false] at h3
 simp -implicitDefEqProofs [pE,h2,h,h3,ef]
 all_goals (repeat' split) <;> first | rfl | omega | (simp_all; done) | (simp_all; omega) | skip
theorem Jt (l : List Bn) (hlen : l.length≤1048576) (hb : wL aP l≤1048576) : aK (ai (ev LI TT) (aj TT) s9) [(0,.row .af 4 (l.map aQ)),(3,.row .own 4 (cZ (l.map aQ) 0 [.int .i64 0,.str ⟨#[]⟩,.str ⟨#[]⟩,.int .i64 0])),(4,.int .i64 0),(6,.int .i64 l.length)] = some (.exit 0,[(0,.row .af 4 (l.map aQ)),(3,.row .own 4 (l.map aQ)),(4,.int .i64 (l).length),(6,.int .i64 l.length),(11,.bool false)]):=by
 refine eZ (f:=ai (ev LI TT) (aj TT) s9) (l) (fun i=>[(0,.row .af 4 (l.map aQ)),(3,.row .own 4 (cZ (l.map aQ) i [.int .i64 0,.str ⟨#[]⟩,.str ⟨#[]⟩,.int .i64 0])),(4,.int .i64 i),(6,.int .i64 l.length)]) _ (fun i b hi hl=>?_) ?_
 ·have hw:=aT i (by first | omega | (simp at hl; omega))
  obtain ⟨_,rfl⟩:=List.getElem?_eq_some_iff.1 hi
  have h:=LF  l[i] (Nat.le_trans (gL (List.getElem_mem hl)) hb)
  try simp at h
  simp -implicitDefEqProofs [s9,Ci,hl,hw,h]
  first | done | (rw [jA _ _ _ _ (by simpa using hl) (by simp)]; done) | (simp only [jN]; rw [jA _ _ _ _ (by simpa using hl) (by simp)])
 ·simp -implicitDefEqProofs [s9,Ci]
theorem LG (l : List Bn) (hb : wL aP l≤1048576) : ev LI TT 74 [.row .af 4 (l.map aQ)] = some (.row .own 4 (l.map aQ),[.dead]):=by
 rw [az (b:=xM) (rs:=[.t 2]) (n:=1) rfl rfl]
 have hlen:=aY (w:=aP) l
 have h:=Jt  l (by omega) hb
 try simp at h
 simp -implicitDefEqProofs [xM,h,(by omega : (l.length : Int) * 48≤140737488355328)]
 all_goals (repeat' split) <;> first | rfl | omega | (simp_all; done) | (simp_all; omega) | skip
theorem I8 (ps : List (Bn×Bn)) (hb : ps.length≤9223372036854775807) (dU : ∀ x∈ps,aP x.1≤1073741824) : aK (ai (ev LI TT) (aj TT) sH) [(0,.row .af 4 (ps.map (fun x : Bn×Bn=>aQ x.1))),(1,.row .af 4 (ps.map (fun x : Bn×Bn=>aQ x.2))),(5,.int .i64 0)] = if aZ cL (ps) = true then some (.exit 0,[(0,.row .af 4 (ps.map (fun x : Bn×Bn=>aQ x.1))),(1,.row .af 4 (ps.map (fun x : Bn×Bn=>aQ x.2))),(5,.int .i64 ps.length),(14,.bool false)]) else some (.ret,[(4,.bool false)]):=by
 refine cO (f:=ai (ev LI TT) (aj TT) sH) (ps) (fun i=>[(0,.row .af 4 (ps.map (fun x : Bn×Bn=>aQ x.1))),(1,.row .af 4 (ps.map (fun x : Bn×Bn=>aQ x.2))),(5,.int .i64 i)]) cL _ _ (fun i b hi hl=>?_) ?_
 ·have hw:=aT i (by first | omega | (simp at hl; omega))
  obtain ⟨_,rfl⟩:=List.getElem?_eq_some_iff.1 hi
  have h:=K6  (ps[i]).1 (ps[i]).2 (dU _ (List.getElem_mem hl)); try simp at h
  simp -implicitDefEqProofs [sH,BV,hl,hw,cL,h]
 ·simp -implicitDefEqProofs [sH,BV]
theorem K7 (a b : List Bn) (hb : wL aP a≤1073741824) : ev LI TT 80 [.row .af 4 (a.map aQ),.row .af 4 (b.map aQ)] = some (.bool (decide (a = b)),[.dead,.dead]):=by
 rw [az (b:=xj) (rs:=[.t 4]) (n:=2) rfl rfl]
 simp -implicitDefEqProofs [xj]
 have hlen:=aY (w:=aP) a
 by_cases h : a.length = b.length
 ·obtain ⟨ps,rfl,rfl⟩:=ov h
  have h1:=I8  ps (by simp at hlen; omega) (fun x hx=>Nat.le_trans (gL (List.mem_map_of_mem hx)) hb)
  have h2:=mU ps
  simp at h1
  rw [← h2]
  cases h3 : aZ cL ps <;> rw [h3] at h1 <;> simp [h1,Function.comp_def]
 ·have : ¬ a = b:=fun e=>h (by rw [e])
  simp [this]
  omega
theorem LB (a : Sh) (n : Int) (hb : qK a) (hn : 0≤n) (hm : n≤9223372036854775807) : ev LI TT 18 [.agg ((bk .af) a),.int .i64 n] = some (.int .i64 (aH n (bF a)),[.dead,.dead]):=by
 rw [az (b:=nT) (rs:=[.t 4]) (n:=2) rfl rfl]
 have hw : bF a = bN a.aE + wL aR a.ay + wL aP a.aJ:=rfl
 have ht:=cj n (bF a)
 have c1:=Lv  a.aE n hb.Ri (by omega) (by omega)
 have s1:=cj n (bN a.aE)
 obtain ⟨m1,e1⟩ : ∃ m,m = aH n (bN a.aE):=⟨_,rfl⟩
 rw [← e1] at c1 s1
 try simp at c1
 by_cases h1 : m1 < 0
 ·have ef : aH n (bF a) = -1:=by omega
  simp -implicitDefEqProofs [nT,c1,h1,ef]
 have c2:=Lz  a.ay m1 hb.Rl (by omega) (by omega)
 have s2:=cj m1 (wL aR a.ay)
 obtain ⟨m2,e2⟩ : ∃ m,m = aH m1 (wL aR a.ay):=⟨_,rfl⟩
 rw [← e2] at c2 s2
 try simp at c2
 by_cases h2 : m2 < 0
 ·have ef : aH n (bF a) = -1:=by omega
  simp -implicitDefEqProofs [nT,c1,h1,c2,h2,ef]
 have c3:=Lu  a.aJ m2 hb.GH (by omega) (by omega)
 have s3:=cj m2 (wL aP a.aJ)
 obtain ⟨m3,e3⟩ : ∃ m,m = aH m2 (wL aP a.aJ):=⟨_,rfl⟩
 rw [← e3] at c3 s3
 try simp at c3
 by_cases h3 : m3 < 0
 ·have ef : aH n (bF a) = -1:=by omega
  simp -implicitDefEqProofs [nT,c1,h1,c2,h2,c3,h3,ef]
 have ef : aH n (bF a) = m3:=by omega
 simp -implicitDefEqProofs [nT,c1,h1,c2,h2,c3,h3,ef]
 all_goals (repeat' split) <;> first | rfl | omega | (simp_all; done) | (simp_all; omega) | skip
theorem LO (a : Sh) (hb : bF a≤1048576) : ev LI TT 21 [.agg ((bk .af) a)] = some (.agg ((bk .own) a),[.dead]):=by
 rw [az (b:=xV) (rs:=[.c 2 6 true 43]) (n:=1) rfl rfl]
 have hw : bF a = bN a.aE + wL aR a.ay + wL aP a.aJ:=rfl
 have h1:=LH  a.aE (by omega)
 try simp at h1
 have h2:=LM  a.ay (by omega)
 try simp at h2
 have h3:=LG  a.aJ (by omega)
 try simp at h3
 simp -implicitDefEqProofs [xV,h1,h2,h3,hw]
 all_goals (repeat' split) <;> first | rfl | omega | (simp_all; done) | (simp_all; omega) | skip
theorem Ez (a b : Sh) (hb : bF a≤1073741824) : ev LI TT 25 [.agg ((bk .af) a),.agg ((bk .af) b)] = some (.bool (decide (a = b)),[.dead,.dead]):=by
 rw [az (b:=kP) (rs:=[.t 4]) (n:=2) rfl rfl]
 have hw : bF a = bN a.aE + wL aR a.ay + wL aP a.aJ:=rfl
 rw [MP]
 have c1:=K8  a.aE b.aE (by omega)
 cases g1 : decide (a.aE = b.aE)
 ·rw [g1] at c1
  try simp at c1
  simp -implicitDefEqProofs [kP,c1]
 rw [g1] at c1
 try simp at c1
 have c2:=Lc  a.ay b.ay (by omega)
 cases g2 : decide (a.ay = b.ay)
 ·rw [g2] at c2
  try simp at c2
  simp -implicitDefEqProofs [kP,c1,c2]
 rw [g2] at c2
 try simp at c2
 have c3:=K7  a.aJ b.aJ (by omega)
 cases g3 : decide (a.aJ = b.aJ)
 ·rw [g3] at c3
  try simp at c3
  simp -implicitDefEqProofs [kP,c1,c2,c3]
 rw [g3] at c3
 try simp at c3
 by_cases g4 : a.next = b.next
 rotate_left
 ·simp -implicitDefEqProofs [kP,c1,c2,c3,eq_false g4]
 by_cases g5 : a.seq = b.seq
 rotate_left
 ·simp -implicitDefEqProofs [kP,c1,c2,c3,eq_true g4,eq_false g5]
 simp -implicitDefEqProofs [kP,c1,c2,c3,eq_true g4,eq_true g5]
 all_goals (repeat' split) <;> first | rfl | omega | (simp_all; done) | (simp_all; omega) | skip
end M
set_option maxHeartbeats 4000000
namespace M
open Go
theorem Jm (n : Nat) (out : ah) (hn : out.length + n≤9223372036854775807) : aK (ai (ev LI TT) (aj TT) Cb) [(0,.int .i64 n),(3,.str ⟨out.toArray⟩)] = some (.exit 0,[(0,.int .i64 0),(3,.str ⟨(gG n out).toArray⟩),(7,.bool false)]):=by
 have hs : ∀ s,ai (ev LI TT) (aj TT) Cb s = ai (ev LI TT) (aj TT) xJ s:=fun _=>rfl
 induction n using Nat.strongRecOn generalizing out with
 | ind n ih =>
  rw [gZ,hs]
  unfold gG
  by_cases h : n = 0
  ·subst h
   simp -implicitDefEqProofs [xJ]
  ·have hp : 0 < n:=by omega
   have:=ih (n / 10) (by omega) (UInt8.ofNat (48 + n % 10) :: out) (by rw [List.length_cons]; omega)
   have e1 : ((n : Int)).tmod 10 = ((n % 10 : Nat) : Int):=by rw [Int.tmod_eq_emod_of_nonneg (by omega)]; omega
   have e4 : ((n : Int)).tdiv 10 = ((n / 10 : Nat) : Int):=by rw [Int.tdiv_eq_ediv_of_nonneg (by omega)]; omega
   have e2 : IntKind.i64.wrap (48 + ((n % 10 : Nat) : Int)) = ((48 + n % 10 : Nat) : Int):=by rw [aN (by omega) (by omega)]; omega
   have e3 : IntKind.u8.wrap ((48 + n % 10 : Nat) : Int) = ((48 + n % 10 : Nat) : Int):=zA (by omega) (by omega)
   have e5:=DU (48 + n % 10) (by omega)
   have e6 : IntKind.i64.wrap ((n / 10 : Nat) : Int) = ((n / 10 : Nat) : Int):=aN (by omega) (by omega)
   simp only [h,dite_false]
   rw [← this]
   simp -implicitDefEqProofs [xJ,hp,tn,e1,e2,e3,e4,e5,e6,-Int.natCast_emod,-Int.natCast_ediv,-Int.natCast_add,-UInt8.ofNat_add,gJ,(by omega : 1 + out.length≤9223372036854775807)]
theorem RO : ∀ (n : Nat) (out : ah),(gG n out).length≤out.length + n:=by
 intro n
 induction n using Nat.strongRecOn with
 | ind n ih =>
  intro out
  unfold gG
  by_cases h : n = 0
  ·simp [h]
  ·simp only [h,dite_false]
   have:=ih (n / 10) (by omega) (UInt8.ofNat (48 + n % 10) :: out)
   rw [List.length_cons] at this
   omega
theorem fB (k : Int) (hk : k≤9223372036854775800) : ev LI TT 172 [.int .i64 k] = some (.str ⟨(nW k).toArray⟩,[.dead]):=by
 rw [az (b:=sW) (rs:=[.t 2]) (n:=1) rfl rfl]
 unfold nW
 by_cases h : k≤0
 ·simp -implicitDefEqProofs [sW,h]
 obtain ⟨n,rfl⟩ : ∃ n : Nat,k = n:=⟨k.toNat,by omega⟩
 have h1:=Jm  n [] (by simp; omega)
 have h2:=RO n []
 simp at h2
 simp -implicitDefEqProofs [sW,h,h1,gJ,(by omega : 1 + (gG n []).length≤9223372036854775807)]
 have h3 : ¬ n = 0:=by omega
 simp [h3]
theorem Jj (l : List aL) (k : Int) (hk : 0≤k) (hn : k + (nL aD l : Nat)≤1000000000000000) : aK (ai (ev LI TT) (aj TT) sS) [(0,.ref 100000 []),(1,.int .i64 (k + ((nL aD (l.take 0) : Nat) : Int))),(5,.int .i64 0),(100000,.row .own 2 (cY ((aS dw aD l k).map aI) (l.map aI) 0))] = some (.exit 0,[(0,.ref 100000 []),(1,.int .i64 (k + ((nL aD l : Nat) : Int))),(5,.int .i64 l.length),(9,.bool false),(100000,.row .own 2 ((aS dw aD l k).map aI))]):=by
 refine eZ (f:=ai (ev LI TT) (aj TT) sS) (l) (fun i=>[(0,.ref 100000 []),(1,.int .i64 (k + ((nL aD (l.take i) : Nat) : Int))),(5,.int .i64 i),(100000,.row .own 2 (cY ((aS dw aD l k).map aI) (l.map aI) i))]) _ (fun i b hi hl=>?_) ?_
 ·have hw:=aT i (by have:=jO aD E0 l; omega)
  obtain ⟨_,rfl⟩:=List.getElem?_eq_some_iff.1 hi
  have hnt:=jP aD l i hl
  have hns:=jq aD l i hl
  have hg:=jo dw aD l k i hl (by simpa using hl)
  obtain ⟨k0,hk0⟩ : ∃ k0,k + ((nL aD (l.take i) : Nat) : Int) = k0:=⟨_,rfl⟩
  rw [hk0] at hg
  have hce : aD l[i] = 2:=rfl
  have m0:=fB k0 (by omega)
  obtain ⟨k1,hk1⟩ : ∃ x,k0 + 1 = x:=⟨_,rfl⟩
  have e0 : IntKind.i64.wrap (k0 + 1) = k1:=by rw [← hk1]; exact aN (by omega) (by omega)
  have m1:=fB k1 (by omega)
  obtain ⟨k2,hk2⟩ : ∃ x,k1 + 1 = x:=⟨_,rfl⟩
  have e1 : IntKind.i64.wrap (k1 + 1) = k2:=by rw [← hk2]; exact aN (by omega) (by omega)
  simp -implicitDefEqProofs [sS,B7,hl,hw,hk0,m0,e0,m1,e1]
  refine ⟨?_,?_⟩
  ·omega
  ·(try simp only [jN])
   refine qZ _ _ _ _ (by simp) (by simpa using hl) ?_
   simp [hg,dw,cy,bJ,iL,hk1,hk2]
 ·rw [List.take_length]
  simp -implicitDefEqProofs [sS,B7]
theorem EA (l : List aL) (k : Int) (hk : 0≤k) (hn : k + (nL aD l : Nat)≤1000000000000000) : ev LI TT 84 [.row .own 2 (l.map aI),.int .i64 k] = some (.int .i64 (k + ((nL aD l : Nat) : Int)),[.row .own 2 ((aS dw aD l k).map aI),.dead]):=by
 rw [az (b:=xD) (rs:=[.t 4]) (n:=2) rfl rfl]
 have u1:=Jj l k hk hn
 simp [nL] at u1
 simp -implicitDefEqProofs [xD,u1,nL]
 all_goals (repeat' split) <;> first | rfl | omega | (simp_all; done) | (simp_all; omega) | skip
theorem Je (l : List aL) (k : Int) (hk : 0≤k) (hn : k + (nL aD l : Nat)≤1000000000000000) : aK (ai (ev LI TT) (aj TT) sN) [(0,.row .af 2 ((aS dw aD l k).map aI)),(1,.int .i64 (k + ((nL aD (l.take 0) : Nat) : Int))),(5,.int .i64 0)] = some (.exit 0,[(0,.row .af 2 ((aS dw aD l k).map aI)),(1,.int .i64 (k + ((nL aD l : Nat) : Int))),(5,.int .i64 l.length),(9,.bool false)]):=by
 refine eZ (f:=ai (ev LI TT) (aj TT) sN) (l) (fun i=>[(0,.row .af 2 ((aS dw aD l k).map aI)),(1,.int .i64 (k + ((nL aD (l.take i) : Nat) : Int))),(5,.int .i64 i)]) _ (fun i b hi hl=>?_) ?_
 ·have hw:=aT i (by have:=jO aD E0 l; omega)
  obtain ⟨_,rfl⟩:=List.getElem?_eq_some_iff.1 hi
  have hnt:=jP aD l i hl
  have hns:=jq aD l i hl
  have hg:=jo dw aD l k i hl (by simpa using hl)
  obtain ⟨k0,hk0⟩ : ∃ k0,k + ((nL aD (l.take i) : Nat) : Int) = k0:=⟨_,rfl⟩
  rw [hk0] at hg
  have hce : aD l[i] = 2:=rfl
  have m0:=fB k0 (by omega)
  obtain ⟨k1,hk1⟩ : ∃ x,k0 + 1 = x:=⟨_,rfl⟩
  have e0 : IntKind.i64.wrap (k0 + 1) = k1:=by rw [← hk1]; exact aN (by omega) (by omega)
  have f0 : IntKind.i64.wrap k1 = k1:=aN (by omega) (by omega)
  have m1:=fB k1 (by omega)
  obtain ⟨k2,hk2⟩ : ∃ x,k1 + 1 = x:=⟨_,rfl⟩
  have e1 : IntKind.i64.wrap (k1 + 1) = k2:=by rw [← hk2]; exact aN (by omega) (by omega)
  have f1 : IntKind.i64.wrap k2 = k2:=aN (by omega) (by omega)
  simp -implicitDefEqProofs [sN,B2,hl,hw,hk0,hg,dw,cy,bJ,iL,hk1,hk2,m0,e0,f0,m1,e1,f1]
  omega
 ·rw [List.take_length]
  simp -implicitDefEqProofs [sN,B2]
theorem Li (l : List aL) (k : Int) (hk : 0≤k) (hn : k + (nL aD l : Nat)≤1000000000000000) : ev LI TT 173 [.row .af 2 ((aS dw aD l k).map aI),.int .i64 k] = some (.int .i64 (k + ((nL aD l : Nat) : Int)),[.dead,.dead]):=by
 rw [az (b:=xu) (rs:=[.t 4]) (n:=2) rfl rfl]
 have u1:=Je l k hk hn
 simp [nL] at u1
 simp -implicitDefEqProofs [xu,u1,nL]
 all_goals (repeat' split) <;> first | rfl | omega | (simp_all; done) | (simp_all; omega) | skip
theorem Jl (l : List ah) (k : Int) (hk : 0≤k) (hn : k + (nL aC l : Nat)≤1000000000000000) : aK (ai (ev LI TT) (aj TT) sV) [(0,.ref 100000 []),(1,.int .i64 (k + ((nL aC (l.take 0) : Nat) : Int))),(5,.int .i64 0),(100000,.row .own 1 (cY ((aS bJ aC l k).map eS) (l.map eS) 0))] = some (.exit 0,[(0,.ref 100000 []),(1,.int .i64 (k + ((nL aC l : Nat) : Int))),(5,.int .i64 l.length),(9,.bool false),(100000,.row .own 1 ((aS bJ aC l k).map eS))]):=by
 refine eZ (f:=ai (ev LI TT) (aj TT) sV) (l) (fun i=>[(0,.ref 100000 []),(1,.int .i64 (k + ((nL aC (l.take i) : Nat) : Int))),(5,.int .i64 i),(100000,.row .own 1 (cY ((aS bJ aC l k).map eS) (l.map eS) i))]) _ (fun i b hi hl=>?_) ?_
 ·have hw:=aT i (by have:=jO aC (fun _=>Nat.le_refl 1) l; omega)
  obtain ⟨_,rfl⟩:=List.getElem?_eq_some_iff.1 hi
  have hnt:=jP aC l i hl
  have hns:=jq aC l i hl
  have hg:=jo bJ aC l k i hl (by simpa using hl)
  obtain ⟨k0,hk0⟩ : ∃ k0,k + ((nL aC (l.take i) : Nat) : Int) = k0:=⟨_,rfl⟩
  rw [hk0] at hg
  have hce : aC l[i] = 1:=rfl
  have m0:=fB k0 (by omega)
  obtain ⟨k1,hk1⟩ : ∃ x,k0 + 1 = x:=⟨_,rfl⟩
  have e0 : IntKind.i64.wrap (k0 + 1) = k1:=by rw [← hk1]; exact aN (by omega) (by omega)
  simp -implicitDefEqProofs [sV,B9,hl,hw,hk0,m0,e0]
  refine ⟨?_,?_⟩
  ·omega
  ·(try simp only [jN])
   refine qZ _ _ _ _ (by simp) (by simpa using hl) ?_
   simp [hg,cy,bJ,iL,hk1]
 ·rw [List.take_length]
  simp -implicitDefEqProofs [sV,B9]
theorem qL (l : List ah) (k : Int) (hk : 0≤k) (hn : k + (nL aC l : Nat)≤1000000000000000) : ev LI TT 85 [.row .own 1 (l.map eS),.int .i64 k] = some (.int .i64 (k + ((nL aC l : Nat) : Int)),[.row .own 1 ((aS bJ aC l k).map eS),.dead]):=by
 rw [az (b:=xI) (rs:=[.t 4]) (n:=2) rfl rfl]
 have u1:=Jl l k hk hn
 simp [nL] at u1
 simp -implicitDefEqProofs [xI,u1,nL]
 all_goals (repeat' split) <;> first | rfl | omega | (simp_all; done) | (simp_all; omega) | skip
theorem Jg (l : List ah) (k : Int) (hk : 0≤k) (hn : k + (nL aC l : Nat)≤1000000000000000) : aK (ai (ev LI TT) (aj TT) sP) [(0,.row .af 1 ((aS bJ aC l k).map eS)),(1,.int .i64 (k + ((nL aC (l.take 0) : Nat) : Int))),(5,.int .i64 0)] = some (.exit 0,[(0,.row .af 1 ((aS bJ aC l k).map eS)),(1,.int .i64 (k + ((nL aC l : Nat) : Int))),(5,.int .i64 l.length),(9,.bool false)]):=by
 refine eZ (f:=ai (ev LI TT) (aj TT) sP) (l) (fun i=>[(0,.row .af 1 ((aS bJ aC l k).map eS)),(1,.int .i64 (k + ((nL aC (l.take i) : Nat) : Int))),(5,.int .i64 i)]) _ (fun i b hi hl=>?_) ?_
 ·have hw:=aT i (by have:=jO aC (fun _=>Nat.le_refl 1) l; omega)
  obtain ⟨_,rfl⟩:=List.getElem?_eq_some_iff.1 hi
  have hnt:=jP aC l i hl
  have hns:=jq aC l i hl
  have hg:=jo bJ aC l k i hl (by simpa using hl)
  obtain ⟨k0,hk0⟩ : ∃ k0,k + ((nL aC (l.take i) : Nat) : Int) = k0:=⟨_,rfl⟩
  rw [hk0] at hg
  have hce : aC l[i] = 1:=rfl
  have m0:=fB k0 (by omega)
  obtain ⟨k1,hk1⟩ : ∃ x,k0 + 1 = x:=⟨_,rfl⟩
  have e0 : IntKind.i64.wrap (k0 + 1) = k1:=by rw [← hk1]; exact aN (by omega) (by omega)
  have f0 : IntKind.i64.wrap k1 = k1:=aN (by omega) (by omega)
  simp -implicitDefEqProofs [sP,B4,hl,hw,hk0,hg,cy,bJ,iL,hk1,m0,e0,f0]
  omega
 ·rw [List.take_length]
  simp -implicitDefEqProofs [sP,B4]
theorem zW (l : List ah) (k : Int) (hk : 0≤k) (hn : k + (nL aC l : Nat)≤1000000000000000) : ev LI TT 87 [.row .af 1 ((aS bJ aC l k).map eS),.int .i64 k] = some (.int .i64 (k + ((nL aC l : Nat) : Int)),[.dead,.dead]):=by
 rw [az (b:=xy) (rs:=[.t 4]) (n:=2) rfl rfl]
 have u1:=Jg l k hk hn
 simp [nL] at u1
 simp -implicitDefEqProofs [xy,u1,nL]
 all_goals (repeat' split) <;> first | rfl | omega | (simp_all; done) | (simp_all; omega) | skip
theorem Jn (l : List Wr) (k : Int) (hk : 0≤k) (hn : k + (nL bV l : Nat)≤1000000000000000) : aK (ai (ev LI TT) (aj TT) sX) [(0,.ref 100000 []),(1,.int .i64 (k + ((nL bV (l.take 0) : Nat) : Int))),(5,.int .i64 0),(100000,.row .own 2 (cY ((aS hY bV l k).map eW) (l.map eW) 0))] = some (.exit 0,[(0,.ref 100000 []),(1,.int .i64 (k + ((nL bV l : Nat) : Int))),(5,.int .i64 l.length),(9,.bool false),(100000,.row .own 2 ((aS hY bV l k).map eW))]):=by
 refine eZ (f:=ai (ev LI TT) (aj TT) sX) (l) (fun i=>[(0,.ref 100000 []),(1,.int .i64 (k + ((nL bV (l.take i) : Nat) : Int))),(5,.int .i64 i),(100000,.row .own 2 (cY ((aS hY bV l k).map eW) (l.map eW) i))]) _ (fun i b hi hl=>?_) ?_
 ·have hw:=aT i (by have:=jO bV E4 l; omega)
  obtain ⟨_,rfl⟩:=List.getElem?_eq_some_iff.1 hi
  have hnt:=jP bV l i hl
  have hns:=jq bV l i hl
  have hg:=jo hY bV l k i hl (by simpa using hl)
  obtain ⟨k0,hk0⟩ : ∃ k0,k + ((nL bV (l.take i) : Nat) : Int) = k0:=⟨_,rfl⟩
  rw [hk0] at hg
  have hce : bV l[i] = 2:=rfl
  obtain ⟨k1,hk1⟩ : ∃ x,k0 + 1 = x:=⟨_,rfl⟩
  have e0 : IntKind.i64.wrap (k0 + 1) = k1:=by rw [← hk1]; exact aN (by omega) (by omega)
  have m1:=fB k1 (by omega)
  obtain ⟨k2,hk2⟩ : ∃ x,k1 + 1 = x:=⟨_,rfl⟩
  have e1 : IntKind.i64.wrap (k1 + 1) = k2:=by rw [← hk2]; exact aN (by omega) (by omega)
  simp -implicitDefEqProofs [sX,Cd,hl,hw,hk0,e0,m1,e1]
  refine ⟨?_,?_⟩
  ·omega
  ·(try simp only [jN])
   refine qZ _ _ _ _ (by simp) (by simpa using hl) ?_
   simp [hg,hY,cy,bJ,iL,hk1,hk2]
 ·rw [List.take_length]
  simp -implicitDefEqProofs [sX,Cd]
theorem Ls (l : List Wr) (k : Int) (hk : 0≤k) (hn : k + (nL bV l : Nat)≤1000000000000000) : ev LI TT 133 [.row .own 2 (l.map eW),.int .i64 k] = some (.int .i64 (k + ((nL bV l : Nat) : Int)),[.row .own 2 ((aS hY bV l k).map eW),.dead]):=by
 rw [az (b:=xK) (rs:=[.t 4]) (n:=2) rfl rfl]
 have u1:=Jn l k hk hn
 simp [nL] at u1
 simp -implicitDefEqProofs [xK,u1,nL]
 all_goals (repeat' split) <;> first | rfl | omega | (simp_all; done) | (simp_all; omega) | skip
theorem Jh (l : List Wr) (k : Int) (hk : 0≤k) (hn : k + (nL bV l : Nat)≤1000000000000000) : aK (ai (ev LI TT) (aj TT) sQ) [(0,.row .af 2 ((aS hY bV l k).map eW)),(1,.int .i64 (k + ((nL bV (l.take 0) : Nat) : Int))),(5,.int .i64 0)] = some (.exit 0,[(0,.row .af 2 ((aS hY bV l k).map eW)),(1,.int .i64 (k + ((nL bV l : Nat) : Int))),(5,.int .i64 l.length),(9,.bool false)]):=by
 refine eZ (f:=ai (ev LI TT) (aj TT) sQ) (l) (fun i=>[(0,.row .af 2 ((aS hY bV l k).map eW)),(1,.int .i64 (k + ((nL bV (l.take i) : Nat) : Int))),(5,.int .i64 i)]) _ (fun i b hi hl=>?_) ?_
 ·have hw:=aT i (by have:=jO bV E4 l; omega)
  obtain ⟨_,rfl⟩:=List.getElem?_eq_some_iff.1 hi
  have hnt:=jP bV l i hl
  have hns:=jq bV l i hl
  have hg:=jo hY bV l k i hl (by simpa using hl)
  obtain ⟨k0,hk0⟩ : ∃ k0,k + ((nL bV (l.take i) : Nat) : Int) = k0:=⟨_,rfl⟩
  rw [hk0] at hg
  have hce : bV l[i] = 2:=rfl
  obtain ⟨k1,hk1⟩ : ∃ x,k0 + 1 = x:=⟨_,rfl⟩
  have e0 : IntKind.i64.wrap (k0 + 1) = k1:=by rw [← hk1]; exact aN (by omega) (by omega)
  have f0 : IntKind.i64.wrap k1 = k1:=aN (by omega) (by omega)
  have m1:=fB k1 (by omega)
  obtain ⟨k2,hk2⟩ : ∃ x,k1 + 1 = x:=⟨_,rfl⟩
  have e1 : IntKind.i64.wrap (k1 + 1) = k2:=by rw [← hk2]; exact aN (by omega) (by omega)
  have f1 : IntKind.i64.wrap k2 = k2:=aN (by omega) (by omega)
  simp -implicitDefEqProofs [sQ,B5,hl,hw,hk0,hg,hY,cy,bJ,iL,hk1,hk2,e0,f0,m1,e1,f1]
  omega
 ·rw [List.take_length]
  simp -implicitDefEqProofs [sQ,B5]
theorem Lm (l : List Wr) (k : Int) (hk : 0≤k) (hn : k + (nL bV l : Nat)≤1000000000000000) : ev LI TT 199 [.row .af 2 ((aS hY bV l k).map eW),.int .i64 k] = some (.int .i64 (k + ((nL bV l : Nat) : Int)),[.dead,.dead]):=by
 rw [az (b:=xA) (rs:=[.t 4]) (n:=2) rfl rfl]
 have u1:=Jh l k hk hn
 simp [nL] at u1
 simp -implicitDefEqProofs [xA,u1,nL]
 all_goals (repeat' split) <;> first | rfl | omega | (simp_all; done) | (simp_all; omega) | skip
theorem Jk (l : List Kp) (k : Int) (hk : 0≤k) (hn : k + (nL bQ l : Nat)≤1000000000000000) : aK (ai (ev LI TT) (aj TT) sU) [(0,.ref 100000 []),(1,.int .i64 (k + ((nL bQ (l.take 0) : Nat) : Int))),(5,.int .i64 0),(100000,.row .own 9 (cY ((aS hU bQ l k).map (aB .own)) (l.map (aB .own)) 0))] = some (.exit 0,[(0,.ref 100000 []),(1,.int .i64 (k + ((nL bQ l : Nat) : Int))),(5,.int .i64 l.length),(9,.bool false),(100000,.row .own 9 ((aS hU bQ l k).map (aB .own)))]):=by
 refine eZ (f:=ai (ev LI TT) (aj TT) sU) (l) (fun i=>[(0,.ref 100000 []),(1,.int .i64 (k + ((nL bQ (l.take i) : Nat) : Int))),(5,.int .i64 i),(100000,.row .own 9 (cY ((aS hU bQ l k).map (aB .own)) (l.map (aB .own)) i))]) _ (fun i b hi hl=>?_) ?_
 ·have hw:=aT i (by have:=jO bQ E2 l; omega)
  obtain ⟨_,rfl⟩:=List.getElem?_eq_some_iff.1 hi
  have hnt:=jP bQ l i hl
  have hns:=jq bQ l i hl
  have hg:=jo hU bQ l k i hl (by simpa using hl)
  obtain ⟨k0,hk0⟩ : ∃ k0,k + ((nL bQ (l.take i) : Nat) : Int) = k0:=⟨_,rfl⟩
  rw [hk0] at hg
  have hce : bQ l[i] = 6 + nL aC l[i].obj.names + nL aC l[i].obj.values + nL aD l[i].obj.resp.fields:=rfl
  have m0:=fB k0 (by omega)
  obtain ⟨k1,hk1⟩ : ∃ x,k0 + 1 = x:=⟨_,rfl⟩
  have e0 : IntKind.i64.wrap (k0 + 1) = k1:=by rw [← hk1]; exact aN (by omega) (by omega)
  have u1:=qL l[i].obj.names k1 (by omega) (by omega)
  obtain ⟨k2,hk2⟩ : ∃ x,k1 + ((nL aC l[i].obj.names : Nat) : Int) = x:=⟨_,rfl⟩
  rw [hk2] at u1
  try simp at u1
  have u2:=qL l[i].obj.values k2 (by omega) (by omega)
  obtain ⟨k3,dV⟩ : ∃ x,k2 + ((nL aC l[i].obj.values : Nat) : Int) = x:=⟨_,rfl⟩
  rw [dV] at u2
  try simp at u2
  obtain ⟨k4,jd⟩ : ∃ x,k3 + 1 = x:=⟨_,rfl⟩
  have e3 : IntKind.i64.wrap (k3 + 1) = k4:=by rw [← jd]; exact aN (by omega) (by omega)
  have u4:=EA l[i].obj.resp.fields k4 (by omega) (by omega)
  obtain ⟨k5,rD⟩ : ∃ x,k4 + ((nL aD l[i].obj.resp.fields : Nat) : Int) = x:=⟨_,rfl⟩
  rw [rD] at u4
  try simp at u4
  have m5:=fB k5 (by omega)
  obtain ⟨k6,rE⟩ : ∃ x,k5 + 1 = x:=⟨_,rfl⟩
  have e5 : IntKind.i64.wrap (k5 + 1) = k6:=by rw [← rE]; exact aN (by omega) (by omega)
  obtain ⟨k7,rF⟩ : ∃ x,k6 + 1 = x:=⟨_,rfl⟩
  have e6 : IntKind.i64.wrap (k6 + 1) = k7:=by rw [← rF]; exact aN (by omega) (by omega)
  obtain ⟨k8,rG⟩ : ∃ x,k7 + 1 = x:=⟨_,rfl⟩
  have e7 : IntKind.i64.wrap (k7 + 1) = k8:=by rw [← rG]; exact aN (by omega) (by omega)
  obtain ⟨k9,rH⟩ : ∃ x,k8 + 1 = x:=⟨_,rfl⟩
  have e8 : IntKind.i64.wrap (k8 + 1) = k9:=by rw [← rH]; exact aN (by omega) (by omega)
  simp -implicitDefEqProofs [sU,B8,hl,hw,hk0,m0,e0,u1,u2,e3,u4,m5,e5,e6,e7,e8]
  refine ⟨?_,?_⟩
  ·omega
  ·(try simp only [jN])
   refine qZ _ _ _ _ (by simp) (by simpa using hl) ?_
   simp [hg,hU,cy,bJ,iL,hk1,hk2,dV,jd,rD,rE,rF,rG,rH]
 ·rw [List.take_length]
  simp -implicitDefEqProofs [sU,B8]
theorem Lp (l : List Kp) (k : Int) (hk : 0≤k) (hn : k + (nL bQ l : Nat)≤1000000000000000) : ev LI TT 82 [.row .own 9 (l.map (aB .own)),.int .i64 k] = some (.int .i64 (k + ((nL bQ l : Nat) : Int)),[.row .own 9 ((aS hU bQ l k).map (aB .own)),.dead]):=by
 rw [az (b:=xE) (rs:=[.t 4]) (n:=2) rfl rfl]
 have u1:=Jk l k hk hn
 simp [nL] at u1
 simp -implicitDefEqProofs [xE,u1,nL]
 all_goals (repeat' split) <;> first | rfl | omega | (simp_all; done) | (simp_all; omega) | skip
theorem Jf (l : List Kp) (k : Int) (hk : 0≤k) (hn : k + (nL bQ l : Nat)≤1000000000000000) : aK (ai (ev LI TT) (aj TT) sO) [(0,.row .af 9 ((aS hU bQ l k).map (aB .af))),(1,.int .i64 (k + ((nL bQ (l.take 0) : Nat) : Int))),(5,.int .i64 0)] = some (.exit 0,[(0,.row .af 9 ((aS hU bQ l k).map (aB .af))),(1,.int .i64 (k + ((nL bQ l : Nat) : Int))),(5,.int .i64 l.length),(9,.bool false)]):=by
 refine eZ (f:=ai (ev LI TT) (aj TT) sO) (l) (fun i=>[(0,.row .af 9 ((aS hU bQ l k).map (aB .af))),(1,.int .i64 (k + ((nL bQ (l.take i) : Nat) : Int))),(5,.int .i64 i)]) _ (fun i b hi hl=>?_) ?_
 ·have hw:=aT i (by have:=jO bQ E2 l; omega)
  obtain ⟨_,rfl⟩:=List.getElem?_eq_some_iff.1 hi
  have hnt:=jP bQ l i hl
  have hns:=jq bQ l i hl
  have hg:=jo hU bQ l k i hl (by simpa using hl)
  obtain ⟨k0,hk0⟩ : ∃ k0,k + ((nL bQ (l.take i) : Nat) : Int) = k0:=⟨_,rfl⟩
  rw [hk0] at hg
  have hce : bQ l[i] = 6 + nL aC l[i].obj.names + nL aC l[i].obj.values + nL aD l[i].obj.resp.fields:=rfl
  have m0:=fB k0 (by omega)
  obtain ⟨k1,hk1⟩ : ∃ x,k0 + 1 = x:=⟨_,rfl⟩
  have e0 : IntKind.i64.wrap (k0 + 1) = k1:=by rw [← hk1]; exact aN (by omega) (by omega)
  have f0 : IntKind.i64.wrap k1 = k1:=aN (by omega) (by omega)
  have u1:=zW l[i].obj.names k1 (by omega) (by omega)
  obtain ⟨k2,hk2⟩ : ∃ x,k1 + ((nL aC l[i].obj.names : Nat) : Int) = x:=⟨_,rfl⟩
  rw [hk2] at u1
  try simp at u1
  have n1 : ¬ k2 < 0:=by omega
  have u2:=zW l[i].obj.values k2 (by omega) (by omega)
  obtain ⟨k3,dV⟩ : ∃ x,k2 + ((nL aC l[i].obj.values : Nat) : Int) = x:=⟨_,rfl⟩
  rw [dV] at u2
  try simp at u2
  have n2 : ¬ k3 < 0:=by omega
  obtain ⟨k4,jd⟩ : ∃ x,k3 + 1 = x:=⟨_,rfl⟩
  have e3 : IntKind.i64.wrap (k3 + 1) = k4:=by rw [← jd]; exact aN (by omega) (by omega)
  have f3 : IntKind.i64.wrap k4 = k4:=aN (by omega) (by omega)
  have u4:=Li l[i].obj.resp.fields k4 (by omega) (by omega)
  obtain ⟨k5,rD⟩ : ∃ x,k4 + ((nL aD l[i].obj.resp.fields : Nat) : Int) = x:=⟨_,rfl⟩
  rw [rD] at u4
  try simp at u4
  have n4 : ¬ k5 < 0:=by omega
  have m5:=fB k5 (by omega)
  obtain ⟨k6,rE⟩ : ∃ x,k5 + 1 = x:=⟨_,rfl⟩
  have e5 : IntKind.i64.wrap (k5 + 1) = k6:=by rw [← rE]; exact aN (by omega) (by omega)
  have f5 : IntKind.i64.wrap k6 = k6:=aN (by omega) (by omega)
  obtain ⟨k7,rF⟩ : ∃ x,k6 + 1 = x:=⟨_,rfl⟩
  have e6 : IntKind.i64.wrap (k6 + 1) = k7:=by rw [← rF]; exact aN (by omega) (by omega)
  have f6 : IntKind.i64.wrap k7 = k7:=aN (by omega) (by omega)
  obtain ⟨k8,rG⟩ : ∃ x,k7 + 1 = x:=⟨_,rfl⟩
  have e7 : IntKind.i64.wrap (k7 + 1) = k8:=by rw [← rG]; exact aN (by omega) (by omega)
  have f7 : IntKind.i64.wrap k8 = k8:=aN (by omega) (by omega)
  obtain ⟨k9,rH⟩ : ∃ x,k8 + 1 = x:=⟨_,rfl⟩
  have e8 : IntKind.i64.wrap (k8 + 1) = k9:=by rw [← rH]; exact aN (by omega) (by omega)
  have f8 : IntKind.i64.wrap k9 = k9:=aN (by omega) (by omega)
  simp -implicitDefEqProofs [sO,B3,hl,hw,hk0,hg,hU,cy,bJ,iL,hk1,hk2,dV,jd,rD,rE,rF,rG,rH,m0,e0,f0,u1,n1,u2,n2,e3,f3,u4,n4,m5,e5,f5,e6,f6,e7,f7,e8,f8]
  omega
 ·rw [List.take_length]
  simp -implicitDefEqProofs [sO,B3]
theorem Lj (l : List Kp) (k : Int) (hk : 0≤k) (hn : k + (nL bQ l : Nat)≤1000000000000000) : ev LI TT 103 [.row .af 9 ((aS hU bQ l k).map (aB .af)),.int .i64 k] = some (.int .i64 (k + ((nL bQ l : Nat) : Int)),[.dead,.dead]):=by
 rw [az (b:=xw) (rs:=[.t 4]) (n:=2) rfl rfl]
 have u1:=Jf l k hk hn
 simp [nL] at u1
 simp -implicitDefEqProofs [xw,u1,nL]
 all_goals (repeat' split) <;> first | rfl | omega | (simp_all; done) | (simp_all; omega) | skip
theorem Ji (l : List Bn) (k : Int) (hk : 0≤k) (hn : k + (nL bU l : Nat)≤1000000000000000) : aK (ai (ev LI TT) (aj TT) sR) [(0,.ref 100000 []),(1,.int .i64 (k + ((nL bU (l.take 0) : Nat) : Int))),(5,.int .i64 0),(100000,.row .own 4 (cY ((aS hO bU l k).map aQ) (l.map aQ) 0))] = some (.exit 0,[(0,.ref 100000 []),(1,.int .i64 (k + ((nL bU l : Nat) : Int))),(5,.int .i64 l.length),(9,.bool false),(100000,.row .own 4 ((aS hO bU l k).map aQ))]):=by
 refine eZ (f:=ai (ev LI TT) (aj TT) sR) (l) (fun i=>[(0,.ref 100000 []),(1,.int .i64 (k + ((nL bU (l.take i) : Nat) : Int))),(5,.int .i64 i),(100000,.row .own 4 (cY ((aS hO bU l k).map aQ) (l.map aQ) i))]) _ (fun i b hi hl=>?_) ?_
 ·have hw:=aT i (by have:=jO bU EZ l; omega)
  obtain ⟨_,rfl⟩:=List.getElem?_eq_some_iff.1 hi
  have hnt:=jP bU l i hl
  have hns:=jq bU l i hl
  have hg:=jo hO bU l k i hl (by simpa using hl)
  obtain ⟨k0,hk0⟩ : ∃ k0,k + ((nL bU (l.take i) : Nat) : Int) = k0:=⟨_,rfl⟩
  rw [hk0] at hg
  have hce : bU l[i] = 4:=rfl
  obtain ⟨k1,hk1⟩ : ∃ x,k0 + 1 = x:=⟨_,rfl⟩
  have e0 : IntKind.i64.wrap (k0 + 1) = k1:=by rw [← hk1]; exact aN (by omega) (by omega)
  have m1:=fB k1 (by omega)
  obtain ⟨k2,hk2⟩ : ∃ x,k1 + 1 = x:=⟨_,rfl⟩
  have e1 : IntKind.i64.wrap (k1 + 1) = k2:=by rw [← hk2]; exact aN (by omega) (by omega)
  have m2:=fB k2 (by omega)
  obtain ⟨k3,dV⟩ : ∃ x,k2 + 1 = x:=⟨_,rfl⟩
  have e2 : IntKind.i64.wrap (k2 + 1) = k3:=by rw [← dV]; exact aN (by omega) (by omega)
  obtain ⟨k4,jd⟩ : ∃ x,k3 + 1 = x:=⟨_,rfl⟩
  have e3 : IntKind.i64.wrap (k3 + 1) = k4:=by rw [← jd]; exact aN (by omega) (by omega)
  simp -implicitDefEqProofs [sR,B6,hl,hw,hk0,e0,m1,e1,m2,e2,e3]
  refine ⟨?_,?_⟩
  ·omega
  ·(try simp only [jN])
   refine qZ _ _ _ _ (by simp) (by simpa using hl) ?_
   simp [hg,hO,cy,bJ,iL,hk1,hk2,dV,jd]
 ·rw [List.take_length]
  simp -implicitDefEqProofs [sR,B6]
theorem Ln (l : List Bn) (k : Int) (hk : 0≤k) (hn : k + (nL bU l : Nat)≤1000000000000000) : ev LI TT 83 [.row .own 4 (l.map aQ),.int .i64 k] = some (.int .i64 (k + ((nL bU l : Nat) : Int)),[.row .own 4 ((aS hO bU l k).map aQ),.dead]):=by
 rw [az (b:=xB) (rs:=[.t 4]) (n:=2) rfl rfl]
 have u1:=Ji l k hk hn
 simp [nL] at u1
 simp -implicitDefEqProofs [xB,u1,nL]
 all_goals (repeat' split) <;> first | rfl | omega | (simp_all; done) | (simp_all; omega) | skip
theorem Jd (l : List Bn) (k : Int) (hk : 0≤k) (hn : k + (nL bU l : Nat)≤1000000000000000) : aK (ai (ev LI TT) (aj TT) sM) [(0,.row .af 4 ((aS hO bU l k).map aQ)),(1,.int .i64 (k + ((nL bU (l.take 0) : Nat) : Int))),(5,.int .i64 0)] = some (.exit 0,[(0,.row .af 4 ((aS hO bU l k).map aQ)),(1,.int .i64 (k + ((nL bU l : Nat) : Int))),(5,.int .i64 l.length),(9,.bool false)]):=by
 refine eZ (f:=ai (ev LI TT) (aj TT) sM) (l) (fun i=>[(0,.row .af 4 ((aS hO bU l k).map aQ)),(1,.int .i64 (k + ((nL bU (l.take i) : Nat) : Int))),(5,.int .i64 i)]) _ (fun i b hi hl=>?_) ?_
 ·have hw:=aT i (by have:=jO bU EZ l; omega)
  obtain ⟨_,rfl⟩:=List.getElem?_eq_some_iff.1 hi
  have hnt:=jP bU l i hl
  have hns:=jq bU l i hl
  have hg:=jo hO bU l k i hl (by simpa using hl)
  obtain ⟨k0,hk0⟩ : ∃ k0,k + ((nL bU (l.take i) : Nat) : Int) = k0:=⟨_,rfl⟩
  rw [hk0] at hg
  have hce : bU l[i] = 4:=rfl
  obtain ⟨k1,hk1⟩ : ∃ x,k0 + 1 = x:=⟨_,rfl⟩
  have e0 : IntKind.i64.wrap (k0 + 1) = k1:=by rw [← hk1]; exact aN (by omega) (by omega)
  have f0 : IntKind.i64.wrap k1 = k1:=aN (by omega) (by omega)
  have m1:=fB k1 (by omega)
  obtain ⟨k2,hk2⟩ : ∃ x,k1 + 1 = x:=⟨_,rfl⟩
  have e1 : IntKind.i64.wrap (k1 + 1) = k2:=by rw [← hk2]; exact aN (by omega) (by omega)
  have f1 : IntKind.i64.wrap k2 = k2:=aN (by omega) (by omega)
  have m2:=fB k2 (by omega)
  obtain ⟨k3,dV⟩ : ∃ x,k2 + 1 = x:=⟨_,rfl⟩
  have e2 : IntKind.i64.wrap (k2 + 1) = k3:=by rw [← dV]; exact aN (by omega) (by omega)
  have f2 : IntKind.i64.wrap k3 = k3:=aN (by omega) (by omega)
  obtain ⟨k4,jd⟩ : ∃ x,k3 + 1 = x:=⟨_,rfl⟩
  have e3 : IntKind.i64.wrap (k3 + 1) = k4:=by rw [← jd]; exact aN (by omega) (by omega)
  have f3 : IntKind.i64.wrap k4 = k4:=aN (by omega) (by omega)
  simp -implicitDefEqProofs [sM,B1,hl,hw,hk0,hg,hO,cy,bJ,iL,hk1,hk2,dV,jd,e0,f0,m1,e1,f1,m2,e2,f2,e3,f3]
  omega
 ·rw [List.take_length]
  simp -implicitDefEqProofs [sM,B1]
theorem Lg (l : List Bn) (k : Int) (hk : 0≤k) (hn : k + (nL bU l : Nat)≤1000000000000000) : ev LI TT 104 [.row .af 4 ((aS hO bU l k).map aQ),.int .i64 k] = some (.int .i64 (k + ((nL bU l : Nat) : Int)),[.dead,.dead]):=by
 rw [az (b:=xp) (rs:=[.t 4]) (n:=2) rfl rfl]
 have u1:=Jd l k hk hn
 simp [nL] at u1
 simp -implicitDefEqProofs [xp,u1,nL]
 all_goals (repeat' split) <;> first | rfl | omega | (simp_all; done) | (simp_all; omega) | skip
theorem Lr (a : bY) (k : Int) (hk : 0≤k) (hn : k + (j0 a : Nat)≤1000000000000000) : ev LI TT 86 [.agg (dS .own a),.int .i64 k] = some (.int .i64 (k + ((j0 a : Nat) : Int)),[.agg (dS .own (lq a k)),.dead]):=by
 rw [az (b:=xG) (rs:=[.t 4]) (n:=2) rfl rfl]
 unfold j0 at hn
 unfold j0 lq
 have u1:=EA a.fields k (by omega) (by omega)
 obtain ⟨k1,hk1⟩ : ∃ x,k + ((nL aD a.fields : Nat) : Int) = x:=⟨_,rfl⟩
 rw [hk1] at u1
 try simp at u1
 have hT : k + ((nL aD a.fields : Nat) : Int) = k1:=by omega
 rw [hT]
 simp -implicitDefEqProofs [xG,u1,hk1,lJ,mD,kW,eC,dj,n5,fA,kA,iN]
 all_goals (repeat' split) <;> first | rfl | omega | (simp_all; done) | (simp_all; omega) | skip
theorem Lq (a : Ob) (k : Int) (hk : 0≤k) (hn : k + (oq a : Nat)≤1000000000000000) : ev LI TT 29 [.agg (bq .own a),.int .i64 k] = some (.int .i64 (k + ((oq a : Nat) : Int)),[.agg (bq .own (uR a k)),.dead]):=by
 rw [az (b:=xF) (rs:=[.t 4]) (n:=2) rfl rfl]
 unfold oq at hn
 unfold oq uR
 have u1:=qL a.names k (by omega) (by omega)
 obtain ⟨k1,hk1⟩ : ∃ x,k + ((nL aC a.names : Nat) : Int) = x:=⟨_,rfl⟩
 rw [hk1] at u1
 try simp at u1
 have u2:=qL a.values k1 (by omega) (by omega)
 obtain ⟨k2,hk2⟩ : ∃ x,k1 + ((nL aC a.values : Nat) : Int) = x:=⟨_,rfl⟩
 rw [hk2] at u2
 try simp at u2
 have u3:=Lr a.resp k2 (by omega) (by omega)
 obtain ⟨k3,dV⟩ : ∃ x,k2 + ((j0 a.resp : Nat) : Int) = x:=⟨_,rfl⟩
 rw [dV] at u3
 try simp at u3
 have hT : k + ((nL aC a.names + nL aC a.values + j0 a.resp : Nat) : Int) = k3:=by omega
 rw [hT]
 simp -implicitDefEqProofs [xF,u1,hk1,u2,hk2,u3,dV,lJ,mD,kW,eC,dj,n5,fA,kA,iN,lq]
 all_goals (repeat' split) <;> first | rfl | omega | (simp_all; done) | (simp_all; omega) | skip
theorem Lo (a : cg) (k : Int) (hk : 0≤k) (hn : k + (fm a : Nat)≤1000000000000000) : ev LI TT 49 [.agg (cu .own a),.int .i64 k] = some (.int .i64 (k + ((fm a : Nat) : Int)),[.agg (cu .own (oo a k)),.dead]):=by
 rw [az (b:=xC) (rs:=[.t 4]) (n:=2) rfl rfl]
 unfold fm at hn
 unfold fm oo
 have u1:=qL a.cells k (by omega) (by omega)
 obtain ⟨k1,hk1⟩ : ∃ x,k + ((nL aC a.cells : Nat) : Int) = x:=⟨_,rfl⟩
 rw [hk1] at u1
 try simp at u1
 have u2:=Ls a.pending k1 (by omega) (by omega)
 obtain ⟨k2,hk2⟩ : ∃ x,k1 + ((nL bV a.pending : Nat) : Int) = x:=⟨_,rfl⟩
 rw [hk2] at u2
 try simp at u2
 have hT : k + ((nL aC a.cells + nL bV a.pending : Nat) : Int) = k2:=by omega
 rw [hT]
 simp -implicitDefEqProofs [xC,u1,hk1,u2,hk2,lJ,mD,kW,eC,dj,n5,fA,kA,iN]
 all_goals (repeat' split) <;> first | rfl | omega | (simp_all; done) | (simp_all; omega) | skip
theorem Lh (a : cg) (k : Int) (hk : 0≤k) (hn : k + (fm a : Nat)≤1000000000000000) : ev LI TT 102 [.agg (cu .af (oo a k)),.int .i64 k] = some (.int .i64 (k + ((fm a : Nat) : Int)),[.dead,.dead]):=by
 rw [az (b:=xq) (rs:=[.t 4]) (n:=2) rfl rfl]
 unfold fm at hn
 unfold fm oo
 have u1:=zW a.cells k (by omega) (by omega)
 obtain ⟨k1,hk1⟩ : ∃ x,k + ((nL aC a.cells : Nat) : Int) = x:=⟨_,rfl⟩
 rw [hk1] at u1
 try simp at u1
 have n1 : ¬ k1 < 0:=by omega
 have u2:=Lm a.pending k1 (by omega) (by omega)
 obtain ⟨k2,hk2⟩ : ∃ x,k1 + ((nL bV a.pending : Nat) : Int) = x:=⟨_,rfl⟩
 rw [hk2] at u2
 try simp at u2
 have n2 : ¬ k2 < 0:=by omega
 have hT : k + ((nL aC a.cells + nL bV a.pending : Nat) : Int) = k2:=by omega
 rw [hT]
 simp -implicitDefEqProofs [xq,u1,hk1,n1,u2,hk2,n2]
 all_goals (repeat' split) <;> first | rfl | omega | (simp_all; done) | (simp_all; omega) | skip
theorem EB (a : Sh) (k : Int) (hk : 0≤k) (hn : k + (gh a : Nat)≤1000000000000000) : ev LI TT 27 [.agg (bk .own a),.int .i64 k] = some (.int .i64 (k + ((gh a : Nat) : Int)),[.agg (bk .own (lu a k)),.dead]):=by
 rw [az (b:=xH) (rs:=[.t 4]) (n:=2) rfl rfl]
 unfold gh at hn
 unfold gh lu
 have u1:=Lo a.aE k (by omega) (by omega)
 obtain ⟨k1,hk1⟩ : ∃ x,k + ((fm a.aE : Nat) : Int) = x:=⟨_,rfl⟩
 rw [hk1] at u1
 try simp at u1
 have u2:=Lp a.ay k1 (by omega) (by omega)
 obtain ⟨k2,hk2⟩ : ∃ x,k1 + ((nL bQ a.ay : Nat) : Int) = x:=⟨_,rfl⟩
 rw [hk2] at u2
 try simp at u2
 have u3:=Ln a.aJ k2 (by omega) (by omega)
 obtain ⟨k3,dV⟩ : ∃ x,k2 + ((nL bU a.aJ : Nat) : Int) = x:=⟨_,rfl⟩
 rw [dV] at u3
 try simp at u3
 have hT : k + ((fm a.aE + nL bQ a.ay + nL bU a.aJ : Nat) : Int) = k3:=by omega
 rw [hT]
 simp -implicitDefEqProofs [xH,u1,hk1,u2,hk2,u3,dV,lJ,mD,kW,eC,dj,n5,fA,kA,iN,oo]
 all_goals (repeat' split) <;> first | rfl | omega | (simp_all; done) | (simp_all; omega) | skip
theorem Ll (a : Sh) (k : Int) (hk : 0≤k) (hn : k + (gh a : Nat)≤1000000000000000) : ev LI TT 37 [.agg (bk .af (lu a k)),.int .i64 k] = some (.int .i64 (k + ((gh a : Nat) : Int)),[.dead,.dead]):=by
 rw [az (b:=xx) (rs:=[.t 4]) (n:=2) rfl rfl]
 unfold gh at hn
 unfold gh lu
 have u1:=Lh a.aE k (by omega) (by omega)
 obtain ⟨k1,hk1⟩ : ∃ x,k + ((fm a.aE : Nat) : Int) = x:=⟨_,rfl⟩
 rw [hk1] at u1
 try simp at u1
 have n1 : ¬ k1 < 0:=by omega
 have u2:=Lj a.ay k1 (by omega) (by omega)
 obtain ⟨k2,hk2⟩ : ∃ x,k1 + ((nL bQ a.ay : Nat) : Int) = x:=⟨_,rfl⟩
 rw [hk2] at u2
 try simp at u2
 have n2 : ¬ k2 < 0:=by omega
 have u3:=Lg a.aJ k2 (by omega) (by omega)
 obtain ⟨k3,dV⟩ : ∃ x,k2 + ((nL bU a.aJ : Nat) : Int) = x:=⟨_,rfl⟩
 rw [dV] at u3
 try simp at u3
 have n3 : ¬ k3 < 0:=by omega
 have hT : k + ((fm a.aE + nL bQ a.ay + nL bU a.aJ : Nat) : Int) = k3:=by omega
 rw [hT]
 simp -implicitDefEqProofs [xx,u1,hk1,n1,u2,hk2,n2,u3,dV,n3]
 all_goals (repeat' split) <;> first | rfl | omega | (simp_all; done) | (simp_all; omega) | skip
end M
namespace M
open Go
@[simp] theorem Xm (x : Int) (lo : Int) (hi : Int) : ev LI TT 137 [.int .i64 x,.int .i64 lo,.int .i64 hi] = some (.bool ((decide (lo≤x∧x≤hi))),[.dead,.dead,.dead]):=by
 rw [az (b:=yZ) (rs:=[.t 6]) (n:=3) rfl rfl]
 simp -implicitDefEqProofs [yZ]
 try (by_cases h1 : lo≤x <;> by_cases h2 : x≤hi <;> simp [h1,h2])
@[simp] theorem Xi (x : Int) (lo : Int) (hi : Int) : ev LI TT 180 [.int .i64 x,.int .i64 lo,.int .i64 hi] = some (.bool ((decide (lo≤x∧x≤hi))),[.dead,.dead,.dead]):=by
 rw [az (b:=w6) (rs:=[.t 6]) (n:=3) rfl rfl]
 simp -implicitDefEqProofs [w6]
 try (by_cases h1 : lo≤x <;> by_cases h2 : x≤hi <;> simp [h1,h2])
theorem JM (s : ah) (hb : s.length≤9223372036854775807) : aK (ai (ev LI TT) (aj TT) um) [(0,.str ⟨s.toArray⟩),(3,.int .i64 0)] = if aZ ot (s) = true then some (.exit 0,[(0,.str ⟨s.toArray⟩),(3,.int .i64 (s).length),(8,.bool false)]) else some (.ret,[(2,.bool false)]):=by
 refine cO (f:=ai (ev LI TT) (aj TT) um) (s) (fun i=>[(0,.str ⟨s.toArray⟩),(3,.int .i64 i)]) ot _ _ (fun i b hi hl=>?_) ?_
 ·have hw:=aT i (by first | omega | (simp at hl; omega))
  obtain ⟨_,rfl⟩:=List.getElem?_eq_some_iff.1 hi
  unfold ot
  simp -implicitDefEqProofs [um,Da,hl,hw]
  all_goals (repeat' split) <;> first | rfl | omega | (simp_all; done) | (simp_all; omega) | skip
 ·simp -implicitDefEqProofs [um,Da]
theorem z6 (s : ah) (hb : s.length≤9223372036854775807) : ev LI TT 184 [.str ⟨s.toArray⟩] = some (.bool ((ep s)),[.dead]):=by
 rw [az (b:=yC) (rs:=[.t 2]) (n:=1) rfl rfl]
 unfold ep
 have u1:=JM  s hb
 try simp at u1
 simp -implicitDefEqProofs [yC,u1]
 all_goals (repeat' split) <;> first | rfl | omega | (simp_all; done) | (simp_all; omega) | skip
theorem I2 (s : ah) (hb : s.length≤9223372036854775807) : aK (ai (ev LI TT) (aj TT) sw) [(0,.str ⟨s.toArray⟩),(3,.int .i64 0)] = if aZ ot (s) = true then some (.exit 0,[(0,.str ⟨s.toArray⟩),(3,.int .i64 (s).length),(7,.bool false)]) else some (.ret,[(2,.bool false)]):=by
 refine cO (f:=ai (ev LI TT) (aj TT) sw) (s) (fun i=>[(0,.str ⟨s.toArray⟩),(3,.int .i64 i)]) ot _ _ (fun i b hi hl=>?_) ?_
 ·have hw:=aT i (by first | omega | (simp at hl; omega))
  obtain ⟨_,rfl⟩:=List.getElem?_eq_some_iff.1 hi
  unfold ot
  simp -implicitDefEqProofs [sw,Bu,hl,hw]
  all_goals (repeat' split) <;> first | rfl | omega | (simp_all; done) | (simp_all; omega) | skip
 ·simp -implicitDefEqProofs [sw,Bu]
theorem zT (s : ah) (hb : s.length≤9223372036854775807) : ev LI TT 260 [.str ⟨s.toArray⟩] = some (.bool ((ep s)),[.dead]):=by
 rw [az (b:=wQ) (rs:=[.t 2]) (n:=1) rfl rfl]
 unfold ep
 have u1:=I2  s hb
 try simp at u1
 simp -implicitDefEqProofs [wQ,u1]
 all_goals (repeat' split) <;> first | rfl | omega | (simp_all; done) | (simp_all; omega) | skip
theorem I4 (s : ah) (lo : UInt8) (hb : s.length≤9223372036854775807) : aK (ai (ev LI TT) (aj TT) sy) [(0,.str ⟨s.toArray⟩),(1,.int .u8 (lo.toNat : Int)),(5,.int .i64 0)] = if aZ (gj lo.toNat) (s) = true then some (.exit 0,[(0,.str ⟨s.toArray⟩),(1,.int .u8 (lo.toNat : Int)),(5,.int .i64 (s).length),(9,.bool false)]) else some (.ret,[(4,.bool false)]):=by
 refine cO (f:=ai (ev LI TT) (aj TT) sy) (s) (fun i=>[(0,.str ⟨s.toArray⟩),(1,.int .u8 (lo.toNat : Int)),(5,.int .i64 i)]) (gj lo.toNat) _ _ (fun i b hi hl=>?_) ?_
 ·have hw:=aT i (by first | omega | (simp at hl; omega))
  obtain ⟨_,rfl⟩:=List.getElem?_eq_some_iff.1 hi
  unfold gj
  simp -implicitDefEqProofs [sy,Bw,hl,hw]
  all_goals (repeat' split) <;> first | rfl | omega | (simp_all; done) | (simp_all; omega) | skip
 ·simp -implicitDefEqProofs [sy,Bw]
theorem Et (s : ah) (lo : UInt8) (hb : s.length≤9223372036854775807) : ev LI TT 305 [.str ⟨s.toArray⟩,.int .u8 (lo.toNat : Int)] = some (.bool ((aZ (gj lo.toNat) s)),[.dead,.dead]):=by
 rw [az (b:=wU) (rs:=[.t 4]) (n:=2) rfl rfl]
 have u1:=I4  s lo hb
 try simp at u1
 simp -implicitDefEqProofs [wU,u1]
 all_goals (repeat' split) <;> first | rfl | omega | (simp_all; done) | (simp_all; omega) | skip
end M
namespace M
open Go
def de (b : UInt8) : Bool:=decide ¬ (b.toNat : Int) = 32
theorem JN (s : ah) (hb : s.length≤9223372036854775807) : aK (ai (ev LI TT) (aj TT) uo) [(0,.str ⟨s.toArray⟩),(3,.int .i64 0),(4,.int .i64 s.length)] = some (.exit 0,(fun (i : Nat)=>[(0,.str ⟨s.toArray⟩),(3,.int .i64 i),(4,.int .i64 s.length),(15,.bool false)]) (cG de (s))):=by
 refine GZ (f:=ai (ev LI TT) (aj TT) uo) (s) (fun i=>[(0,.str ⟨s.toArray⟩),(3,.int .i64 i),(4,.int .i64 s.length)]) de (fun (i : Nat)=>[(0,.str ⟨s.toArray⟩),(3,.int .i64 i),(4,.int .i64 s.length),(15,.bool false)]) (fun i b hi hl=>?_) ?_
 ·have hw:=aT i (by first | omega | (simp at hl; omega))
  obtain ⟨_,rfl⟩:=List.getElem?_eq_some_iff.1 hi
  simp -implicitDefEqProofs [uo,Db,hl,hw,de]
  all_goals (repeat' split) <;> first | rfl | omega | (simp_all; done) | (simp_all; omega) | skip
 ·simp -implicitDefEqProofs [uo,Db]
theorem JO (s : ah) (k : Nat) (hk : k≤s.length) (hb : s.length≤9223372036854775807) : aK (ai (ev LI TT) (aj TT) uq) [(0,.str ⟨s.toArray⟩),(3,.int .i64 k),(4,.int .i64 ((s.length - 0 : Nat) : Int))] = some (.exit 2,(fun (i : Nat)=>[(0,.str ⟨s.toArray⟩),(3,.int .i64 k),(4,.int .i64 ((s.length - i : Nat) : Int)),(27,.bool false)]) (cG de ((s.drop k).reverse))):=by
 refine GZ (f:=ai (ev LI TT) (aj TT) uq) ((s.drop k).reverse) (fun i=>[(0,.str ⟨s.toArray⟩),(3,.int .i64 k),(4,.int .i64 ((s.length - i : Nat) : Int))]) de (fun (i : Nat)=>[(0,.str ⟨s.toArray⟩),(3,.int .i64 k),(4,.int .i64 ((s.length - i : Nat) : Int)),(27,.bool false)]) (fun i b hi hl=>?_) ?_
 ·have hw:=aT i (by first | omega | (simp at hl; omega))
  obtain ⟨_,rfl⟩:=List.getElem?_eq_some_iff.1 hi
  simp at hl
  obtain ⟨m,hm⟩ : ∃ m,s.length - i = m + 1:=⟨s.length - i - 1,by omega⟩
  have e1 : s.length - (i + 1) = m:=by omega
  have e2 : IntKind.i64.wrap (m : Int) = m:=aN (by omega) (by omega)
  have e3 : m < s.length:=by omega
  have e4 : ((s.drop k).reverse)[i] = s[m]:=by simp; congr 1; omega
  have e5 : (k : Int) < (m : Int) + 1:=by omega
  rw [e4,hm,e1]
  simp -implicitDefEqProofs [uq,Dc,hl,hw,de,e2,e3,e5]
  try (rw [List.getElem?_eq_getElem e3]; simp [e2])
  all_goals (repeat' split) <;> first | rfl | omega | (simp_all; done) | (simp_all; omega) | skip
 ·simp only [List.length_reverse,List.length_drop,show s.length - (s.length - k) = k by omega]
  simp -implicitDefEqProofs [uq,Dc]
end M
namespace M
open Go
theorem Hg (b : UInt8) : de b = true↔b≠32:=by
 unfold de
 have : ((b.toNat : Int) = 32)↔b = 32:=by
  constructor
  ·intro h; exact UInt8.toNat_inj.1 (by have e : (32 : UInt8).toNat = 32:=rfl; omega)
  ·rintro rfl; rfl
 simp [this]
theorem Io (s : ah) : Lib.trimLeftB s 32 = s.drop (cG de s):=by
 refine Lib.trimLeftB_drop s 32 _ (zx _ _) (fun j b hj hb=>?_) fun b hb=>(Hg b).1 (Iu _ _ _ hb)
 have:=Iv _ _ _ _ hj hb
 by_cases h : b = 32
 ·exact h
 ·rw [(Hg b).2 h] at this; cases this
theorem Wx (s : ah) : Lib.trimRightB s 32 = s.take (s.length - cG de s.reverse):=by
 have h:=Io s.reverse
 unfold Lib.trimLeftB at h
 unfold Lib.trimRightB
 rw [h,List.drop_reverse,List.reverse_reverse]
theorem Wy (s : ah) : (s.drop (cG de s)).take (s.length - cG de (s.drop (cG de s)).reverse - cG de s) = dx s:=by
 rw [Wz,Io,Wx,List.length_drop]
 congr 1
 omega
theorem z7 (s : ah) (hb : s.length≤9223372036854775807) : ev LI TT 264 [.str ⟨s.toArray⟩] = some (.str ⟨(dx s).toArray⟩,[.dead]):=by
 rw [az (b:=yE) (rs:=[.t 2]) (n:=1) rfl rfl]
 have h1:=zx de s
 have h2:=zx de (s.drop (cG de s)).reverse
 simp only [List.length_reverse,List.length_drop] at h2
 have h3:=Wy s
 have u1:=JN  s hb
 try simp at u1
 have u2:=JO  s (cG de s) (zx _ _) hb
 try simp at u2
 simp -implicitDefEqProofs [yE,u1,u2,(by omega : (cG de s : Int)≤((s.length - cG de (s.drop (cG de s)).reverse : Nat) : Int)),(by omega : ((s.length - cG de (s.drop (cG de s)).reverse : Nat) : Int)≤s.length),Lib.extract_mk,h3]
 all_goals (repeat' split) <;> first | rfl | omega | (simp_all; done) | (simp_all; omega) | skip
theorem Es (s : ah) (hb : s.length≤9223372036854775807) : ev LI TT 306 [.str ⟨s.toArray⟩] = some (.str ⟨(dx s).toArray⟩,[.dead]):=by
 rw [az (b:=wR) (rs:=[.t 2]) (n:=1) rfl rfl]
 have u1:=Mo  s hb
 try simp at u1
 simp -implicitDefEqProofs [wR,u1]
 all_goals (repeat' split) <;> first | rfl | omega | (simp_all; done) | (simp_all; omega) | skip
theorem JP (s : ah) (hb : s.length≤9223372036854775807) : aK (ai (ev LI TT) (aj TT) ur) [(0,.str ⟨s.toArray⟩),(3,.int .i64 0)] = if aZ (gj 32) (s) = true then some (.exit 0,[(0,.str ⟨s.toArray⟩),(3,.int .i64 (s).length),(7,.bool false)]) else some (.ret,[(2,.bool false)]):=by
 refine cO (f:=ai (ev LI TT) (aj TT) ur) (s) (fun i=>[(0,.str ⟨s.toArray⟩),(3,.int .i64 i)]) (gj 32) _ _ (fun i b hi hl=>?_) ?_
 ·have hw:=aT i (by first | omega | (simp at hl; omega))
  obtain ⟨_,rfl⟩:=List.getElem?_eq_some_iff.1 hi
  unfold gj
  simp -implicitDefEqProofs [ur,Dd,hl,hw]
  all_goals (repeat' split) <;> first | rfl | omega | (simp_all; done) | (simp_all; omega) | skip
 ·simp -implicitDefEqProofs [ur,Dd]
theorem z8 (s : ah) (hb : s.length≤9223372036854775807) : ev LI TT 185 [.str ⟨s.toArray⟩] = some (.bool ((gi s)),[.dead]):=by
 rw [az (b:=oc) (rs:=[.t 2]) (n:=1) rfl rfl]
 unfold gi
 have u1:=JP  s hb
 try simp at u1
 have u2:=z7  s hb
 try simp at u2
 by_cases g1 : aZ (gj 32) s = true
 rotate_left
 ·simp -implicitDefEqProofs [oc,u1,u2,g1]
 by_cases g2 : 1≤(s.length : Int)
 rotate_left
 ·simp -implicitDefEqProofs [oc,u1,u2,g1,eq_false g2]
 by_cases g3 : (s.length : Int)≤60
 rotate_left
 ·simp -implicitDefEqProofs [oc,u1,u2,g1,eq_true g2,eq_false g3]
 simp -implicitDefEqProofs [oc,u1,u2,g1,eq_true g2,eq_true g3]
 all_goals (repeat' split) <;> first | rfl | omega | (simp_all; done) | (simp_all; omega) | skip
theorem zU (s : ah) (hb : s.length≤9223372036854775807) : ev LI TT 261 [.str ⟨s.toArray⟩] = some (.bool ((gi s)),[.dead]):=by
 rw [az (b:=nM) (rs:=[.t 2]) (n:=1) rfl rfl]
 unfold gi
 have X7 : (32 : UInt8).toNat = 32:=rfl
 have u1:=Et  s 32 hb
 try simp at u1
 have u2:=Es  s hb
 try simp at u2
 by_cases g1 : 1≤(s.length : Int)
 rotate_left
 ·simp -implicitDefEqProofs [nM,u1,u2,eq_false g1]
 by_cases g2 : (s.length : Int)≤60
 rotate_left
 ·simp -implicitDefEqProofs [nM,u1,u2,eq_true g1,eq_false g2]
 by_cases g3 : aZ (gj 32) s = true
 rotate_left
 ·simp -implicitDefEqProofs [nM,u1,u2,eq_true g1,eq_true g2,g3]
 simp -implicitDefEqProofs [nM,u1,u2,eq_true g1,eq_true g2,g3]
 all_goals (repeat' split) <;> first | rfl | omega | (simp_all; done) | (simp_all; omega) | skip
theorem JU (s : ah) (hb : s.length≤9223372036854775807) : aK (ai (ev LI TT) (aj TT) uH) [(0,.str ⟨s.toArray⟩),(3,.int .i64 0)] = if aZ (gj 33) (s) = true then some (.exit 0,[(0,.str ⟨s.toArray⟩),(3,.int .i64 (s).length),(7,.bool false)]) else some (.ret,[(2,.bool false)]):=by
 refine cO (f:=ai (ev LI TT) (aj TT) uH) (s) (fun i=>[(0,.str ⟨s.toArray⟩),(3,.int .i64 i)]) (gj 33) _ _ (fun i b hi hl=>?_) ?_
 ·have hw:=aT i (by first | omega | (simp at hl; omega))
  obtain ⟨_,rfl⟩:=List.getElem?_eq_some_iff.1 hi
  unfold gj
  simp -implicitDefEqProofs [uH,DB,hl,hw]
  all_goals (repeat' split) <;> first | rfl | omega | (simp_all; done) | (simp_all; omega) | skip
 ·simp -implicitDefEqProofs [uH,DB]
theorem EK (s : ah) (hb : s.length≤9223372036854775807) : ev LI TT 160 [.str ⟨s.toArray⟩] = some (.bool ((ia s)),[.dead]):=by
 rw [az (b:=og) (rs:=[.t 2]) (n:=1) rfl rfl]
 unfold ia
 have u1:=JU  s hb
 try simp at u1
 by_cases g1 : aZ (gj 33) s = true
 rotate_left
 ·simp -implicitDefEqProofs [og,u1,g1]
 by_cases g2 : 1≤(s.length : Int)
 rotate_left
 ·simp -implicitDefEqProofs [og,u1,g1,eq_false g2]
 by_cases g3 : (s.length : Int)≤60
 rotate_left
 ·simp -implicitDefEqProofs [og,u1,g1,eq_true g2,eq_false g3]
 obtain ⟨b,hb0⟩ : ∃ b,s[0]? = some b:=⟨s[0]'(by omega),by simp⟩
 simp -implicitDefEqProofs [og,u1,g1,eq_true g2,eq_true g3,hb0]
 all_goals (repeat' split) <;> first | rfl | omega | (simp_all; done) | (simp_all; omega) | skip
theorem Ew (s : ah) (hb : s.length≤9223372036854775807) : ev LI TT 259 [.str ⟨s.toArray⟩] = some (.bool ((ia s)),[.dead]):=by
 rw [az (b:=o6) (rs:=[.t 2]) (n:=1) rfl rfl]
 unfold ia
 have X8 : (33 : UInt8).toNat = 33:=rfl
 have u1:=Et  s 33 hb
 try simp at u1
 by_cases g1 : 1≤(s.length : Int)
 rotate_left
 ·simp -implicitDefEqProofs [o6,u1,eq_false g1]
 by_cases g2 : (s.length : Int)≤60
 rotate_left
 ·simp -implicitDefEqProofs [o6,u1,eq_true g1,eq_false g2]
 obtain ⟨b,hb0⟩ : ∃ b,s[0]? = some b:=⟨s[0]'(by omega),by simp⟩
 by_cases P6 : (b.toNat : Int) = 47
 all_goals
 simp -implicitDefEqProofs [o6,u1,eq_true g1,eq_true g2,hb0,P6]
 all_goals (repeat' split) <;> first | rfl | omega | (simp_all; done) | (simp_all; omega) | skip
@[simp] theorem Xl (t : Int) : ev LI TT 143 [.int .i64 t] = some (.bool ((decide (0≤t∧t≤1000000))),[.dead]):=by
 rw [az (b:=w9) (rs:=[.t 2]) (n:=1) rfl rfl]
 simp -implicitDefEqProofs [w9]
 all_goals (repeat' split) <;> first | rfl | omega | (simp_all; done) | (simp_all; omega) | skip
theorem KI (n : Int) : ev LI TT 250 [.int .i64 n] = some (.str ⟨(e9 n).toArray⟩,[.dead]):=by
 rw [az (b:=r8) (rs:=[.t 2]) (n:=1) rfl rfl]
 unfold e9
 by_cases hn : 0≤n∧n≤1000000
 rotate_left
 ·have hf : (decide (0≤n) && decide (n≤1000000)) = false:=by simp; omega
  simp -implicitDefEqProofs [r8,hn,hf]
 obtain ⟨k,rfl⟩ : ∃ k : Nat,n = k:=⟨n.toNat,by omega⟩
 have u1:=mZ  k (by omega)
 try simp at u1
 simp -implicitDefEqProofs [r8,u1,hn]
 all_goals (repeat' split) <;> first | rfl | omega | (simp_all; done) | (simp_all; omega) | skip
end M
namespace M
open Go
theorem JD (s : ah) (hb : s.length≤1073741824) : aK (ai (ev LI TT) (aj TT) n9) [(0,.str ⟨s.toArray⟩),(3,.row .own 1 (([]).map eU)),(4,.int .i64 0)] = some (.exit 0,[(0,.str ⟨s.toArray⟩),(3,.row .own 1 ((((s).flatMap (fun b=>[jl b]))).map eU)),(4,.int .i64 (s).length),(10,.bool false)]):=by
 refine pO (f:=ai (ev LI TT) (aj TT) n9) (s) (fun b=>[jl b]) (fun i out=>[(0,.str ⟨s.toArray⟩),(3,.row .own 1 ((out).map eU)),(4,.int .i64 i)]) (fun out=>[(0,.str ⟨s.toArray⟩),(3,.row .own 1 ((out).map eU)),(4,.int .i64 (s).length),(10,.bool false)]) (fun i b out hi hl hout=>?_) (fun out hout=>?_)
 ·have hw:=aT i (by first | omega | (simp at hl; omega))
  obtain ⟨_,rfl⟩:=List.getElem?_eq_some_iff.1 hi
  have hlo : out.length = i:=by rw [hout]; exact vP _ _ _ (by omega)
  have hx:=s[i].toNat_lt
  unfold jl
  by_cases h1 : 65≤(s[i]).toNat
  rotate_left
  ·have h1' : ¬ (65 : Int)≤(s[i]).toNat:=by omega
   simp -implicitDefEqProofs [n9,uc,hl,hw,h1,h1',hlo,dN]
   omega
  by_cases h2 : (s[i]).toNat≤90
  rotate_left
  ·have h1' : (65 : Int)≤(s[i]).toNat:=by omega
   have fW : ¬ ((s[i]).toNat : Int)≤90:=by omega
   have AJ : 90 < ((s[i]).toNat : Int):=by omega
   simp -implicitDefEqProofs [n9,uc,hl,hw,h1,h1',h2,fW,AJ,hlo,dN]
   omega
  have h1' : (65 : Int)≤(s[i]).toNat:=by omega
  have fW : ((s[i]).toNat : Int)≤90:=by omega
  have h3:=G0 s[i] ⟨h1,h2⟩
  have h4 : IntKind.u8.wrap ((s[i]).toNat + 32) = (s[i]).toNat + 32:=IC (by omega) (by omega)
  simp -implicitDefEqProofs [n9,uc,hl,hw,h1,h1',h2,fW,hlo,dN,h3,h4]
  omega
 ·simp -implicitDefEqProofs [n9,uc]
theorem LY (s : ah) (hb : s.length≤1073741824) : ev LI TT 254 [.str ⟨s.toArray⟩] = some (.str ⟨(b8 s).toArray⟩,[.dead]):=by
 rw [az (b:=yy) (rs:=[.t 2]) (n:=1) rfl rfl]
 have hl : (b8 s).length = s.length:=by simp [b8]
 have e : s.flatMap (fun b=>[jl b]) = b8 s:=Ay jl s
 have u1:=JD  s hb
 try simp at u1
 simp -implicitDefEqProofs [yy,u1,e,hl,rowAt,(by omega : s.length≤9223372036854775807)]
 all_goals (repeat' split) <;> first | rfl | omega | (simp_all; done) | (simp_all; omega) | skip
theorem TF (s : ah) (i : Nat) (h : i < s.length) (x : UInt8) (hx : x = jl s[i]) : (b8 (s.take i) ++ s.drop i).set i x = b8 (s.take (i + 1)) ++ s.drop (i + 1):=by
 subst hx
 rw [List.set_append_right _ _ (by simp [b8]; omega),List.drop_eq_getElem_cons h]
 have : i - (b8 (s.take i)).length = 0:=by simp [b8]; omega
 rw [this,List.take_succ_eq_append_getElem h]
 simp only [List.set_cons_zero,b8,List.map_append,List.map_cons,List.map_nil,List.append_assoc,List.cons_append,List.nil_append]
theorem HU (s : ah) (i : Nat) (h : i < s.length) (hx : jl s[i] = s[i]) : b8 (s.take i) ++ s.drop i = b8 (s.take (i + 1)) ++ s.drop (i + 1):=by
 rw [List.take_succ_eq_append_getElem h,List.drop_eq_getElem_cons h]
 simp only [b8,hx,List.map_append,List.map_cons,List.map_nil,List.append_assoc,List.cons_append,List.nil_append]
theorem MW (l : ah) (i : Nat) (x : Int) (b : UInt8) (hx : x = (b.toNat : Int)) : (l.map eU).modify i (fun e=>e.set 0 (X.int .u8 x)) = (l.set i b).map eU:=by
 subst hx
 apply List.ext_getElem?
 intro j
 rw [List.getElem?_modify,List.getElem?_map,List.getElem?_map,List.getElem?_set]
 by_cases h : i = j
 ·subst h
  by_cases h2 : i < l.length
  ·simp [h2]
  ·simp [h2,List.getElem?_eq_none (Nat.le_of_not_lt h2)]
 ·simp only [h,if_false]
  cases l[j]? <;> rfl
theorem IW (s : ah) (hb : s.length≤1073741824) : aK (ai (ev LI TT) (aj TT) nJ) [(3,.row .own 1 ((b8 (s.take 0) ++ s.drop 0).map eU)),(6,.str ⟨s.toArray⟩),(8,.ref 3 []),(9,.int .i64 s.length),(10,.int .i64 0)] = some (.exit 0,[(3,.row .own 1 ((b8 s).map eU)),(6,.str ⟨s.toArray⟩),(8,.ref 3 []),(9,.int .i64 s.length),(10,.int .i64 (s).length),(11,.bool false)]):=by
 refine eZ (f:=ai (ev LI TT) (aj TT) nJ) (s) (fun i=>[(3,.row .own 1 ((b8 (s.take i) ++ s.drop i).map eU)),(6,.str ⟨s.toArray⟩),(8,.ref 3 []),(9,.int .i64 s.length),(10,.int .i64 i)]) _ (fun i b hi hl=>?_) ?_
 ·have hw:=aT i (by first | omega | (simp at hl; omega))
  obtain ⟨_,rfl⟩:=List.getElem?_eq_some_iff.1 hi
  have hk : (b8 (s.take i) ++ s.drop i).length = s.length:=by simp [b8]; omega
  have hx:=s[i].toNat_lt
  have hg : (b8 (s.take i) ++ s.drop i)[i]? = some s[i]:=by rw [List.getElem?_append_right (by simp [b8]; omega)]; simp [b8,Nat.min_eq_left (Nat.le_of_lt hl)]
  have hg' : ∀ h,(b8 (s.take i) ++ s.drop i)[i]'h = s[i]:=fun h=>by rw [List.getElem?_eq_getElem h] at hg; exact Option.some.inj hg
  generalize hq : b8 (s.take i) ++ s.drop i = q at hk hg hg' ⊢
  have nC : i < q.length:=by omega
  by_cases h1 : 65≤(s[i]).toNat
  rotate_left
  ·have h1' : ¬ (65 : Int)≤(s[i]).toNat:=by omega
   have e:=HU s i hl (by unfold jl; rw [if_neg (by omega)])
   rw [hq] at e
   simp -implicitDefEqProofs [nJ,r7,hl,hw,hg,hg',nC,h1',← e]
  by_cases h2 : (s[i]).toNat≤90
  rotate_left
  ·have h1' : (65 : Int)≤(s[i]).toNat:=by omega
   have AJ : 90 < ((s[i]).toNat : Int):=by omega
   have fW : ¬ ((s[i]).toNat : Int)≤90:=by omega
   have e:=HU s i hl (by unfold jl; rw [if_neg (by omega)])
   rw [hq] at e
   simp -implicitDefEqProofs [nJ,r7,hl,hw,hg,hg',nC,h1',fW,AJ,← e]
  have h1' : (65 : Int)≤(s[i]).toNat:=by omega
  have fW : ((s[i]).toNat : Int)≤90:=by omega
  have h3:=G0 s[i] ⟨h1,h2⟩
  have h4 : IntKind.u8.wrap ((s[i]).toNat + 32) = (s[i]).toNat + 32:=IC (by omega) (by omega)
  have e:=TF s i hl (s[i] + 32) (by unfold jl; rw [if_pos ⟨h1,h2⟩])
  rw [hq] at e
  have e2:=MW q i _ (s[i] + 32) (show ((s[i]).toNat : Int) + 32 = _ by rw [h3]; rfl)
  rw [e] at e2
  simp -implicitDefEqProofs [nJ,r7,hl,hw,hg,hg',nC,h1',fW,h4,e2]
  all_goals (repeat' split) <;> first | rfl | omega | (simp_all; done) | (simp_all; omega) | skip
 ·simp only [List.take_length,List.drop_length,List.append_nil]
  simp -implicitDefEqProofs [nJ,r7]
theorem KH (s : ah) (hb : s.length≤1073741824) : ev LI TT 299 [.str ⟨s.toArray⟩] = some (.str ⟨(b8 s).toArray⟩,[.dead]):=by
 rw [az (b:=wI) (rs:=[.t 2]) (n:=1) rfl rfl]
 have hl : (b8 s).length = s.length:=by simp [b8]
 have e0 : b8 (s.take 0) ++ s.drop 0 = s:=by simp [b8]
 have u1:=IW  s hb
 try simp at u1
 simp -implicitDefEqProofs [wI,u1,hl,rowAt,(by omega : s.length≤9223372036854775807)]
 all_goals (repeat' split) <;> first | rfl | omega | (simp_all; done) | (simp_all; omega) | skip
end M
namespace M
open Go
theorem JE (n : Nat) (out : ah) (hn : out.length + n≤9223372036854775807) : aK (ai (ev LI TT) (aj TT) C4) [(0,.int .i64 n),(3,.str ⟨out.toArray⟩)] = some (.exit 0,[(0,.int .i64 0),(3,.str ⟨(gG n out).toArray⟩),(10,.bool false)]):=by
 have hs : ∀ s,ai (ev LI TT) (aj TT) C4 s = ai (ev LI TT) (aj TT) yz s:=fun _=>rfl
 induction n using Nat.strongRecOn generalizing out with
 | ind n ih =>
  rw [gZ,hs]
  unfold gG
  by_cases h : n = 0
  ·subst h
   simp -implicitDefEqProofs [yz]
  ·have hp : 0 < n:=by omega
   have:=ih (n / 10) (by omega) (UInt8.ofNat (48 + n % 10) :: out) (by rw [List.length_cons]; omega)
   have e1 : ((n : Int)).tmod 10 = ((n % 10 : Nat) : Int):=by rw [Int.tmod_eq_emod_of_nonneg (by omega)]; omega
   have e4 : ((n : Int)).tdiv 10 = ((n / 10 : Nat) : Int):=by rw [Int.tdiv_eq_ediv_of_nonneg (by omega)]; omega
   have e2 : IntKind.i64.wrap (48 + ((n % 10 : Nat) : Int)) = ((48 + n % 10 : Nat) : Int):=by rw [aN (by omega) (by omega)]; omega
   have e3 : IntKind.u8.wrap ((48 + n % 10 : Nat) : Int) = ((48 + n % 10 : Nat) : Int):=zA (by omega) (by omega)
   have e5:=DU (48 + n % 10) (by omega)
   have e6 : IntKind.i64.wrap ((n / 10 : Nat) : Int) = ((n / 10 : Nat) : Int):=aN (by omega) (by omega)
   simp only [h,dite_false]
   rw [← this]
   simp -implicitDefEqProofs [yz,hp,tn,e1,e2,e3,e4,e5,e6,-Int.natCast_emod,-Int.natCast_ediv,-Int.natCast_add,-UInt8.ofNat_add,gJ,(by omega : 1 + out.length≤9223372036854775807)]
theorem vq (n : Int) : ev LI TT 189 [.int .i64 n] = some (.str ⟨(e9 n).toArray⟩,[.dead]):=by
 rw [az (b:=qd) (rs:=[.t 2]) (n:=1) rfl rfl]
 unfold e9
 by_cases hn : 0≤n∧n≤1000000
 rotate_left
 ·have hf : (decide (0≤n) && decide (n≤1000000)) = false:=by simp; omega
  simp -implicitDefEqProofs [qd,hn,hf]
 obtain ⟨k,rfl⟩ : ∃ k : Nat,n = k:=⟨n.toNat,by omega⟩
 by_cases h : k = 0
 ·subst h; simp -implicitDefEqProofs [qd,Fb]
 have h1:=JE k [] (by simp; omega)
 rw [G4 k [] h,List.append_nil] at h1
 simp -implicitDefEqProofs [qd,hn,h,h1]
 all_goals (repeat' split) <;> first | rfl | omega | (simp_all; done) | (simp_all; omega) | skip
theorem CD (n : Int) : (e9 n).length≤7:=by
 unfold e9
 split
 ·exact kq _ (by omega)
 ·simp
end M
namespace M
open Go
def fM (w : ah) : List ah:=if dx w≠[] then [dx w] else []
theorem SX (s : ah) (i : Nat) (h : i < (s.map some ++ [none]).length) : (∃ hi : i < s.length,(s.map some ++ [none])[i] = some s[i])∨(i = s.length∧(s.map some ++ [none])[i] = none):=by
 by_cases hi : i < s.length
 ·refine .inl ⟨hi,?_⟩
  rw [List.getElem_append_left (by simpa using hi)]
  simp
 ·simp at h
  obtain rfl : i = s.length:=by omega
  refine .inr ⟨rfl,?_⟩
  rw [List.getElem_append_right (by simp)]
  simp
theorem HY (w : ah) : (fM w).length≤1:=by unfold fM; split <;> simp
theorem P2 (c : UInt8) (f : ah→List ah) (hf : ∀ w,(f w).length≤1) (s : ah) (i : Nat) (g : List ah×Nat) (b : Option UInt8) (h : g.2≤i∧g.1.length≤i) : (fE c f s i g b).2≤i + 1∧(fE c f s i g b).1.length≤i + 1:=by
 unfold fE
 have:=hf ((s.take i).drop g.2)
 split
 ·split
  ·simp; omega
  ·omega
 ·simp; omega
theorem JK (s : ah) (hb : s.length≤1073741824) (g : List ah×Nat) (hinv : g.2≤0∧g.1.length≤0) : aK (ai (ev LI TT) (aj TT) lf) [(0,.str ⟨s.toArray⟩),(3,.row .own 1 ((g).1.map eS)),(4,.int .i64 ((g).2 : Nat)),(5,.int .i64 0)] = some (.exit 0,[(0,.str ⟨s.toArray⟩),(3,.row .own 1 (((foldI (fE 44 fM s) 0 (s.map some ++ [none]) g)).1.map eS)),(4,.int .i64 (((foldI (fE 44 fM s) 0 (s.map some ++ [none]) g)).2 : Nat)),(5,.int .i64 (s.map some ++ [none]).length),(11,.bool false)]):=by
 refine kQ (f:=ai (ev LI TT) (aj TT) lf) (s.map some ++ [none]) (fun i (g : List ah×Nat)=>[(0,.str ⟨s.toArray⟩),(3,.row .own 1 ((g).1.map eS)),(4,.int .i64 ((g).2 : Nat)),(5,.int .i64 i)]) (fE 44 fM s) (fun g=>[(0,.str ⟨s.toArray⟩),(3,.row .own 1 ((g).1.map eS)),(4,.int .i64 ((g).2 : Nat)),(5,.int .i64 (s.map some ++ [none]).length),(11,.bool false)]) (fun i (g : List ah×Nat)=>g.2≤i∧g.1.length≤i) g hinv (fun i b g hi hl hinv=>?_) (fun i b g hi hinv=>?_) (fun g hinv=>?_)
 ·have hw:=aT i (by first | omega | (simp at hl; omega))
  obtain ⟨_,rfl⟩:=List.getElem?_eq_some_iff.1 hi
  have hlz : (g.1.length + 1) * 16≤140737488355328:=by simp at hl; omega
  have F6 : ∀ b : UInt8,((b.toNat : Int) = 44)↔b = 44:=fun b=>⟨fun h=>UInt8.toNat_inj.1 (by have e : (44 : UInt8).toNat = 44:=rfl; omega),fun h=>by subst h; rfl⟩
  rcases SX s i hl with ⟨hi',e⟩ | ⟨rfl,e⟩
  ·rw [e]
   have k1 : (i : Int)≤s.length:=by omega
   have k2 : i≤s.length:=by omega
   have hc:=z7 ((s.drop g.2).take (i - g.2)) (by simp; omega)
   by_cases hx : s[i] = 44
   rotate_left
   ·have hx':=mt (F6 s[i]).1 hx
    simp -implicitDefEqProofs [lf,ob,k1,k2,hi',hw,fE,hx,hx']
   have hx':=(F6 s[i]).2 hx
   have e3 : (s.take i).drop g.2 = (s.drop g.2).take (i - g.2):=List.drop_take ..
   by_cases ht : dx ((s.drop g.2).take (i - g.2)) = []
   ·simp -implicitDefEqProofs [lf,ob,k1,k2,hi',hw,fE,eq_true hx,hx',hinv,hc,Lib.extract_mk,fM,e3,eq_true ht]
   ·simp -implicitDefEqProofs [lf,ob,k1,k2,hi',hw,fE,eq_true hx,hx',hinv,hc,Lib.extract_mk,fM,e3,eq_false ht,dN,hlz]
  rw [e]
  have hc:=z7 ((s.drop g.2).take (s.length - g.2)) (by simp; omega)
  have e3 : (s.take s.length).drop g.2 = (s.drop g.2).take (s.length - g.2):=List.drop_take ..
  by_cases ht : dx ((s.drop g.2).take (s.length - g.2)) = []
  ·simp only [fE,e3,fM,eq_true ht]
   simp -implicitDefEqProofs [lf,ob,hw,hinv,hc,Lib.extract_mk,eq_true ht]
  simp only [fE,e3,fM,eq_false ht]
  simp -implicitDefEqProofs [lf,ob,hl,hw,hinv,hc,Lib.extract_mk,eq_false ht,dN,hlz]
 ·exact P2 44 fM HY s i g b hinv
 ·have Qw : ¬ ((s.length : Int) + 1≤s.length):=by omega
  simp -implicitDefEqProofs [lf,ob,Qw]
theorem L3 (s : ah) (hb : s.length≤1073741824) : ev LI TT 253 [.str ⟨s.toArray⟩] = some (.row .own 1 ((gM s).map eS),[.dead]):=by
 rw [az (b:=yA) (rs:=[.t 2]) (n:=1) rfl rfl]
 have u1:=JK s hb ([],0) ⟨by omega,by simp⟩
 rw [PS,show (cl 44 s).flatMap fM = gM s from (Iz s).symm] at u1
 simp at u1
 simp -implicitDefEqProofs [yA,u1]
 all_goals (repeat' split) <;> first | rfl | omega | (simp_all; done) | (simp_all; omega) | skip
theorem I0 (s : ah) (ws : List ah) (hb : ∀ w∈ws,w.length≤1073741824) (hl0 : ws.length≤1073741825) : aK (ai (ev LI TT) (aj TT) oY) [(3,.row .own 1 (([]).map eS)),(8,.row .own 1 (ws.map eS)),(9,.int .i64 ws.length),(10,.int .i64 0)] = some (.exit 0,[(3,.row .own 1 ((((ws).flatMap fM)).map eS)),(8,.row .own 1 (ws.map eS)),(9,.int .i64 ws.length),(10,.int .i64 (ws).length),(11,.bool false)]):=by
 refine pO (f:=ai (ev LI TT) (aj TT) oY) (ws) fM (fun i out=>[(3,.row .own 1 ((out).map eS)),(8,.row .own 1 (ws.map eS)),(9,.int .i64 ws.length),(10,.int .i64 i)]) (fun out=>[(3,.row .own 1 ((out).map eS)),(8,.row .own 1 (ws.map eS)),(9,.int .i64 ws.length),(10,.int .i64 (ws).length),(11,.bool false)]) (fun i b out hi hl hout=>?_) (fun out hout=>?_)
 ·have hw:=aT i (by first | omega | (simp at hl; omega))
  obtain ⟨_,rfl⟩:=List.getElem?_eq_some_iff.1 hi
  have hlo : out.length≤i:=by rw [hout]; exact FH fM HY ws i
  have hlz : (out.length + 1) * 16≤140737488355328:=by omega
  have hc:=Es ws[i] (by have:=hb _ (List.getElem_mem hl); omega)
  unfold fM
  by_cases ht : dx ws[i] = []
  ·simp -implicitDefEqProofs [oY,wN,hl,hw,hc,eq_true ht]
  simp -implicitDefEqProofs [oY,wN,hl,hw,hc,eq_false ht,dN,hlz]
 ·simp -implicitDefEqProofs [oY,wN]
theorem KS (s : ah) (hb : s.length≤1073741824) : ev LI TT 297 [.str ⟨s.toArray⟩] = some (.row .own 1 ((gM s).map eS),[.dead]):=by
 rw [az (b:=wO) (rs:=[.t 2]) (n:=1) rfl rfl]
 rw [Iz s,show (fun w=>if dx w≠[] then [dx w] else []) = fM from rfl]
 have u1:=Mn  s 44 (by omega)
 try simp at u1
 have u2:=I0  s (cl 44 s) (fun w hw=>by have:=H7 44 s w hw; omega) (by have:=H6 44 s; omega)
 try simp at u2
 simp -implicitDefEqProofs [wO,u1,u2]
 all_goals (repeat' split) <;> first | rfl | omega | (simp_all; done) | (simp_all; omega) | skip
theorem JW (l : List ah) (hl0 : l.length≤1073741824) (hb : ∀ w∈l,w.length≤1073741824) : aK (ai (ev LI TT) (aj TT) uI) [(0,.row .af 1 (l.map eS)),(3,.int .i64 0)] = if aZ ep (l) = true then some (.exit 0,[(0,.row .af 1 (l.map eS)),(3,.int .i64 (l).length),(7,.bool false)]) else some (.ret,[(2,.bool false)]):=by
 refine cO (f:=ai (ev LI TT) (aj TT) uI) (l) (fun i=>[(0,.row .af 1 (l.map eS)),(3,.int .i64 i)]) ep _ _ (fun i b hi hl=>?_) ?_
 ·have hw:=aT i (by first | omega | (simp at hl; omega))
  obtain ⟨_,rfl⟩:=List.getElem?_eq_some_iff.1 hi
  have u1:=z6  l[i] (by have:=hb _ (List.getElem_mem hl); omega)
  try simp at u1
  simp -implicitDefEqProofs [uI,DC,hl,hw,u1]
  all_goals (repeat' split) <;> first | rfl | omega | (simp_all; done) | (simp_all; omega) | skip
 ·simp -implicitDefEqProofs [uI,DC]
theorem Mc (l : List ah) (hl0 : l.length≤1073741824) (hb : ∀ w∈l,w.length≤1073741824) : ev LI TT 202 [.row .af 1 (l.map eS)] = some (.bool ((aZ ep l && decide ((l.length : Int)≤4))),[.dead]):=by
 rw [az (b:=y8) (rs:=[.t 2]) (n:=1) rfl rfl]
 have u1:=JW  l hl0 hb
 try simp at u1
 simp -implicitDefEqProofs [y8,u1]
 all_goals (repeat' split) <;> first | rfl | omega | (simp_all; done) | (simp_all; omega) | skip
theorem I6 (l : List ah) (hl0 : l.length≤1073741824) (hb : ∀ w∈l,w.length≤1073741824) : aK (ai (ev LI TT) (aj TT) sC) [(0,.row .af 1 (l.map eS)),(5,.row .af 1 (l.map eS)),(6,.int .i64 l.length),(7,.int .i64 0)] = if aZ ep (l) = true then some (.exit 0,[(0,.row .af 1 (l.map eS)),(5,.row .af 1 (l.map eS)),(6,.int .i64 l.length),(7,.int .i64 (l).length),(8,.bool false)]) else some (.ret,[(2,.bool false)]):=by
 refine cO (f:=ai (ev LI TT) (aj TT) sC) (l) (fun i=>[(0,.row .af 1 (l.map eS)),(5,.row .af 1 (l.map eS)),(6,.int .i64 l.length),(7,.int .i64 i)]) ep _ _ (fun i b hi hl=>?_) ?_
 ·have hw:=aT i (by first | omega | (simp at hl; omega))
  obtain ⟨_,rfl⟩:=List.getElem?_eq_some_iff.1 hi
  have u1:=zT  l[i] (by have:=hb _ (List.getElem_mem hl); omega)
  try simp at u1
  simp -implicitDefEqProofs [sC,Bz,hl,hw,u1]
  all_goals (repeat' split) <;> first | rfl | omega | (simp_all; done) | (simp_all; omega) | skip
 ·simp -implicitDefEqProofs [sC,Bz]
theorem K5 (l : List ah) (hl0 : l.length≤1073741824) (hb : ∀ w∈l,w.length≤1073741824) : ev LI TT 271 [.row .af 1 (l.map eS)] = some (.bool ((aZ ep l && decide ((l.length : Int)≤4))),[.dead]):=by
 rw [az (b:=xd) (rs:=[.t 2]) (n:=1) rfl rfl]
 have u1:=I6  l hl0 hb
 try simp at u1
 simp -implicitDefEqProofs [xd,u1]
 all_goals (repeat' split) <;> first | rfl | omega | (simp_all; done) | (simp_all; omega) | skip
end M
namespace M
open Go
theorem JT (fs : List aL) (n : ah) (hb : fs.length≤9223372036854775807) : aK (ai (ev LI TT) (aj TT) uF) [(0,.row .af 2 (fs.map aI)),(1,.str ⟨n.toArray⟩),(5,.int .i64 0)] = (cB (fun f=>decide (f.name = n)) 0 (fs)).elim (some (.exit 0,[(0,.row .af 2 (fs.map aI)),(1,.str ⟨n.toArray⟩),(5,.int .i64 (fs).length),(9,.bool false)])) fun x=>some (.ret,(fun (i : Nat) b=>[(4,.int .i64 i)]) x.1 x.2):=by
 refine tA (f:=ai (ev LI TT) (aj TT) uF) (fs) (fun i=>[(0,.row .af 2 (fs.map aI)),(1,.str ⟨n.toArray⟩),(5,.int .i64 i)]) (fun f=>decide (f.name = n)) (fun (i : Nat) b=>[(4,.int .i64 i)]) _ (fun i b hi hl=>?_) ?_
 ·have hw:=aT i (by first | omega | (simp at hl; omega))
  obtain ⟨_,rfl⟩:=List.getElem?_eq_some_iff.1 hi
  simp -implicitDefEqProofs [uF,DA,hl,hw]
 ·simp -implicitDefEqProofs [uF,DA]
theorem EJ (fs : List aL) (n : ah) (hb : fs.length≤9223372036854775807) : ev LI TT 252 [.row .af 2 (fs.map aI),.str ⟨n.toArray⟩] = some (.int .i64 (gm (fP fs n)),[.dead,.dead]):=by
 rw [az (b:=uG) (rs:=[.t 4]) (n:=2) rfl rfl]
 have h:=JT  fs n hb
 rw [show cB (fun f=>decide (f.name = n)) 0 fs = fP fs n from rfl] at h
 simp at h
 cases g : fP fs n with
 | none=>rw [g] at h; simp at h; simp -implicitDefEqProofs [uG,h,gm]
 | some x =>
 rw [g] at h
 simp at h
 simp -implicitDefEqProofs [uG,h,gm]
 all_goals (repeat' split) <;> first | rfl | omega | (simp_all; done) | (simp_all; omega) | skip
theorem EG (fs : List aL) (n : ah) (hb : fs.length≤9223372036854775807) : ev LI TT 162 [.row .af 2 (fs.map aI),.str ⟨n.toArray⟩] = some (.au [.str ⟨((cQ fs n).getD []).toArray⟩,.bool (cQ fs n).isSome],[.dead,.dead]):=by
 rw [az (b:=tZ) (rs:=[.t 4,.t 5]) (n:=2) rfl rfl]
 have h:=EJ  fs n hb
 unfold cQ
 cases g : fP fs n with
 | none=>rw [g] at h; simp [gm] at h; simp -implicitDefEqProofs [tZ,h]
 | some x =>
 obtain ⟨i,b⟩:=x
 rw [g] at h
 obtain ⟨h1,h2,h3⟩:=nw g
 simp at h2
 simp [gm] at h
 have hi : i < fs.length:=(List.getElem?_eq_some_iff.1 h2).1
 obtain ⟨_,rfl⟩:=List.getElem?_eq_some_iff.1 h2
 simp -implicitDefEqProofs [tZ,h,hi]
 all_goals (repeat' split) <;> first | rfl | omega | (simp_all; done) | (simp_all; omega) | skip
theorem K0 (f : aL) (n : ah) : ev LI TT 321 [.agg (aI f),.ptr .af [.str ⟨n.toArray⟩]] = some (.bool (decide (f.name = n)),[.dead,.dead]):=by
 rw [az (b:=w4) (rs:=[.t 3]) (n:=2) rfl rfl]
 simp -implicitDefEqProofs [w4]
 all_goals (repeat' split) <;> first | rfl | omega | (simp_all; done) | (simp_all; omega) | skip
theorem JY (fs : List aL) (n : ah) (hb : fs.length≤9223372036854775807) : aK (ai (ev LI TT) (aj TT) uX) [(0,.row .af 2 (fs.map aI)),(1,.fn 321 [.ptr .af [.str ⟨n.toArray⟩]]),(7,.int .i64 fs.length),(8,.int .i64 0)] = (cB (fun f=>decide (f.name = n)) 0 (fs)).elim (some (.exit 0,[(0,.row .af 2 (fs.map aI)),(1,.fn 321 [.ptr .af [.str ⟨n.toArray⟩]]),(7,.int .i64 fs.length),(8,.int .i64 (fs).length),(9,.bool false)])) fun x=>some (.ret,(fun (i : Nat) b=>[(4,.int .i64 i)]) x.1 x.2):=by
 refine tA (f:=ai (ev LI TT) (aj TT) uX) (fs) (fun i=>[(0,.row .af 2 (fs.map aI)),(1,.fn 321 [.ptr .af [.str ⟨n.toArray⟩]]),(7,.int .i64 fs.length),(8,.int .i64 i)]) (fun f=>decide (f.name = n)) (fun (i : Nat) b=>[(4,.int .i64 i)]) _ (fun i b hi hl=>?_) ?_
 ·have hw:=aT i (by first | omega | (simp at hl; omega))
  obtain ⟨_,rfl⟩:=List.getElem?_eq_some_iff.1 hi
  have ho : aj TT 321 = true:=rfl
  have hf:=K0  fs[i] n
  simp at hf
  simp -implicitDefEqProofs [uX,D6,hl,hw,ho,nO,hf]
 ·simp -implicitDefEqProofs [uX,D6]
theorem Mk (fs : List aL) (n : ah) (hb : fs.length≤9223372036854775807) : ev LI TT 320 [.row .af 2 (fs.map aI),.fn 321 [.ptr .af [.str ⟨n.toArray⟩]]] = some (.int .i64 (gm (fP fs n)),[.dead,.dead]):=by
 rw [az (b:=uY) (rs:=[.t 4]) (n:=2) rfl rfl]
 have h:=JY  fs n hb
 rw [show cB (fun f=>decide (f.name = n)) 0 fs = fP fs n from rfl] at h
 simp at h
 cases g : fP fs n with
 | none=>rw [g] at h; simp at h; simp -implicitDefEqProofs [uY,h,gm]
 | some x =>
 rw [g] at h
 simp at h
 simp -implicitDefEqProofs [uY,h,gm]
 all_goals (repeat' split) <;> first | rfl | omega | (simp_all; done) | (simp_all; omega) | skip
theorem Ev (fs : List aL) (n : ah) (hb : fs.length≤9223372036854775807) : ev LI TT 296 [.row .af 2 (fs.map aI),.str ⟨n.toArray⟩] = some (.int .i64 (gm (fP fs n)),[.dead,.dead]):=by
 rw [az (b:=w5) (rs:=[.t 4]) (n:=2) rfl rfl]
 have h:=Mk  fs n hb
 simp -implicitDefEqProofs [w5,h,gI,eo]
 all_goals (repeat' split) <;> first | rfl | omega | (simp_all; done) | (simp_all; omega) | skip
theorem Ep (fs : List aL) (n : ah) (hb : fs.length≤9223372036854775807) : ev LI TT 234 [.row .af 2 (fs.map aI),.str ⟨n.toArray⟩] = some (.au [.str ⟨((cQ fs n).getD []).toArray⟩,.bool (cQ fs n).isSome],[.dead,.dead]):=by
 rw [az (b:=rX) (rs:=[.t 4,.t 5]) (n:=2) rfl rfl]
 have h:=Ev  fs n hb
 unfold cQ
 cases g : fP fs n with
 | none=>rw [g] at h; simp [gm] at h; simp -implicitDefEqProofs [rX,h]
 | some x =>
 obtain ⟨i,b⟩:=x
 rw [g] at h
 obtain ⟨h1,h2,h3⟩:=nw g
 simp at h2
 simp [gm] at h
 have hi : i < fs.length:=(List.getElem?_eq_some_iff.1 h2).1
 obtain ⟨_,rfl⟩:=List.getElem?_eq_some_iff.1 h2
 simp -implicitDefEqProofs [rX,h,hi]
 all_goals (repeat' split) <;> first | rfl | omega | (simp_all; done) | (simp_all; omega) | skip
end M
namespace M
open Go
theorem tK : (⟨#[99,111,110,116,101,110,116,45,108,101,110,103,116,104]⟩ : ByteArray) = ⟨kS.toArray⟩:=rfl
theorem Jz (fs : List aL) (hb : wL aM fs≤1073741824) : aK (ai (ev LI TT) (aj TT) kZ) [(0,.row .af 2 (fs.map aI)),(3,.int .i64 0)] = if aZ (fU fs) (fs.zipIdx) = true then some (.exit 0,[(0,.row .af 2 (fs.map aI)),(3,.int .i64 (fs.zipIdx).length),(7,.bool false)]) else some (.ret,[(2,.bool false)]):=by
 refine cO (f:=ai (ev LI TT) (aj TT) kZ) (fs.zipIdx) (fun i=>[(0,.row .af 2 (fs.map aI)),(3,.int .i64 i)]) (fU fs) _ _ (fun i b hi hl=>?_) ?_
 ·have hw:=aT i (by have:=aY (w:=aM) fs; simp at hl; omega)
  obtain ⟨_,rfl⟩:=List.getElem?_eq_some_iff.1 hi
  simp only [List.length_zipIdx] at hl
  have hz : fs.zipIdx[i]'(by simpa using hl) = (fs[i],i):=by simp
  have hm:=zz (List.getElem_mem hl)
  have hfl:=aY (w:=aM) fs
  rw [hz]
  have u1:=z6  fs[i].name (by omega)
  try simp at u1
  have u2:=z8  fs[i].value (by omega)
  try simp at u2
  have u3:=EJ  fs fs[i].name (by omega)
  try simp at u3
  by_cases g1 : ep fs[i].name = true
  rotate_left
  ·simp -implicitDefEqProofs [kZ,n8,hl,hw,u1,u2,u3,fU,g1]
  by_cases g2 : gi fs[i].value = true
  rotate_left
  ·simp -implicitDefEqProofs [kZ,n8,hl,hw,u1,u2,u3,fU,g1,g2]
  by_cases g3 : gm (fP fs fs[i].name) = i
  rotate_left
  ·simp -implicitDefEqProofs [kZ,n8,hl,hw,u1,u2,u3,fU,g1,g2,eq_false g3]
  by_cases hcl : fs[i].name = kS
  ·simp -implicitDefEqProofs [kZ,n8,hl,hw,u1,u2,u3,g1,g2,eq_true g3,fU,tK,eq_true hcl]
  simp -implicitDefEqProofs [kZ,n8,hl,hw,u1,u2,u3,fU,g1,g2,eq_true g3,tK,eq_false hcl]
  all_goals (repeat' split) <;> first | rfl | omega | (simp_all; done) | (simp_all; omega) | skip
 ·simp -implicitDefEqProofs [kZ,n8]
theorem LR (fs : List aL) (hb : wL aM fs≤1073741824) : ev LI TT 161 [.row .af 2 (fs.map aI)] = some (.bool ((lT fs)),[.dead]):=by
 rw [az (b:=yq) (rs:=[.t 2]) (n:=1) rfl rfl]
 unfold lT
 have hfl:=aY (w:=aM) fs
 have u1:=Jz  fs hb
 try simp at u1
 simp -implicitDefEqProofs [yq,u1]
 all_goals (repeat' split) <;> first | rfl | omega | (simp_all; done) | (simp_all; omega) | skip
theorem IU (fs : List aL) (hb : wL aM fs≤1073741824) : aK (ai (ev LI TT) (aj TT) kK) [(0,.row .af 2 (fs.map aI)),(5,.row .af 2 (fs.map aI)),(6,.int .i64 fs.length),(7,.int .i64 0)] = if aZ (fU fs) (fs.zipIdx) = true then some (.exit 0,[(0,.row .af 2 (fs.map aI)),(5,.row .af 2 (fs.map aI)),(6,.int .i64 fs.length),(7,.int .i64 (fs.zipIdx).length),(8,.bool false)]) else some (.ret,[(2,.bool false)]):=by
 refine cO (f:=ai (ev LI TT) (aj TT) kK) (fs.zipIdx) (fun i=>[(0,.row .af 2 (fs.map aI)),(5,.row .af 2 (fs.map aI)),(6,.int .i64 fs.length),(7,.int .i64 i)]) (fU fs) _ _ (fun i b hi hl=>?_) ?_
 ·have hw:=aT i (by have:=aY (w:=aM) fs; simp at hl; omega)
  obtain ⟨_,rfl⟩:=List.getElem?_eq_some_iff.1 hi
  simp only [List.length_zipIdx] at hl
  have hz : fs.zipIdx[i]'(by simpa using hl) = (fs[i],i):=by simp
  have hm:=zz (List.getElem_mem hl)
  have hfl:=aY (w:=aM) fs
  rw [hz]
  have u1:=zT  fs[i].name (by omega)
  try simp at u1
  have u2:=zU  fs[i].value (by omega)
  try simp at u2
  have u3:=Ev  fs fs[i].name (by omega)
  try simp at u3
  by_cases g1 : ep fs[i].name = true
  rotate_left
  ·simp -implicitDefEqProofs [kK,nI,hl,hw,u1,u2,u3,fU,g1]
  by_cases g2 : gi fs[i].value = true
  rotate_left
  ·simp -implicitDefEqProofs [kK,nI,hl,hw,u1,u2,u3,fU,g1,g2]
  by_cases hcl : fs[i].name = kS
  ·simp -implicitDefEqProofs [kK,nI,hl,hw,u1,u2,u3,g1,g2,fU,tK,eq_true hcl]
  by_cases g3 : gm (fP fs fs[i].name) = i
  rotate_left
  ·simp -implicitDefEqProofs [kK,nI,hl,hw,u1,u2,u3,g1,g2,fU,tK,eq_false hcl,eq_false g3]
  simp -implicitDefEqProofs [kK,nI,hl,hw,u1,u2,u3,fU,g1,g2,tK,eq_false hcl,eq_true g3]
  all_goals (repeat' split) <;> first | rfl | omega | (simp_all; done) | (simp_all; omega) | skip
 ·simp -implicitDefEqProofs [kK,nI]
theorem KC (fs : List aL) (hb : wL aM fs≤1073741824) : ev LI TT 294 [.row .af 2 (fs.map aI)] = some (.bool ((lT fs)),[.dead]):=by
 rw [az (b:=wG) (rs:=[.t 2]) (n:=1) rfl rfl]
 unfold lT
 have hfl:=aY (w:=aM) fs
 have u1:=IU  fs hb
 try simp at u1
 simp -implicitDefEqProofs [wG,u1]
 all_goals (repeat' split) <;> first | rfl | omega | (simp_all; done) | (simp_all; omega) | skip
theorem Nb (fs : List aL) : cF (fs.map aI) = true:=by induction fs <;> simp_all [cF,scalar]
theorem EH (r : bY) (hb : bD r≤1073741824) : ev LI TT 201 [.agg (dS .af r)] = some (.bool ((eH r)),[.dead]):=by
 rw [az (b:=oa) (rs:=[.t 2]) (n:=1) rfl rfl]
 have hw : bD r = wL aM r.fields + r.body.length:=rfl
 unfold eH
 have u1:=LR  r.fields (by omega)
 try simp at u1
 by_cases g1 : 100≤r.status
 rotate_left
 ·simp -implicitDefEqProofs [oa,u1,eq_false g1]
 by_cases g2 : r.status≤599
 rotate_left
 ·simp -implicitDefEqProofs [oa,u1,eq_true g1,eq_false g2]
 by_cases g3 : lT r.fields = true
 rotate_left
 ·simp -implicitDefEqProofs [oa,u1,eq_true g1,eq_true g2,g3]
 simp -implicitDefEqProofs [oa,u1,eq_true g1,eq_true g2,g3]
 all_goals (repeat' split) <;> first | rfl | omega | (simp_all; done) | (simp_all; omega) | skip
theorem Er (r : bY) (hb : bD r≤1073741824) : ev LI TT 251 [.agg (dS .af r)] = some (.bool ((eH r)),[.dead]):=by
 rw [az (b:=nK) (rs:=[.t 2]) (n:=1) rfl rfl]
 have hw : bD r = wL aM r.fields + r.body.length:=rfl
 unfold eH
 have u1:=KC  r.fields (by omega)
 try simp at u1
 by_cases g1 : 100≤r.status
 rotate_left
 ·simp -implicitDefEqProofs [nK,u1,eq_false g1]
 by_cases g2 : r.status≤599
 rotate_left
 ·simp -implicitDefEqProofs [nK,u1,eq_true g1,eq_false g2]
 by_cases g3 : (r.body.length : Int)≤120
 rotate_left
 ·simp -implicitDefEqProofs [nK,u1,eq_true g1,eq_true g2,eq_false g3]
 simp -implicitDefEqProofs [nK,u1,eq_true g1,eq_true g2,eq_true g3]
 all_goals (repeat' split) <;> first | rfl | omega | (simp_all; done) | (simp_all; omega) | skip
theorem Mb (fs : List aL) (hb : fs.length≤1073741824) : ev LI TT 258 [.row .af 2 (fs.map aI)] = some (.row .own 2 (fs.map aI),[.dead]):=by
 rw [az (b:=y7) (rs:=[.t 2]) (n:=1) rfl rfl]
 simp -implicitDefEqProofs [y7,Nb fs,rowAt,(by omega : fs.length * 32≤140737488355328)]
 all_goals (repeat' split) <;> first | rfl | omega | (simp_all; done) | (simp_all; omega) | skip
theorem Me (r : bY) (hb : r.fields.length≤1073741824) : ev LI TT 177 [.agg (dS .af r)] = some (.agg (dS .own r),[.dead]):=by
 rw [az (b:=y9) (rs:=[.c 2 3 true 59]) (n:=1) rfl rfl]
 have u1:=Mb  r.fields hb
 try simp at u1
 simp -implicitDefEqProofs [y9,u1]
 all_goals (repeat' split) <;> first | rfl | omega | (simp_all; done) | (simp_all; omega) | skip
theorem KY (r : bY) (hb : r.fields.length≤1073741824) : ev LI TT 246 [.agg (dS .af r)] = some (.agg (dS .own r),[.dead]):=by
 rw [az (b:=wY) (rs:=[.c 2 3 true 59]) (n:=1) rfl rfl]
 have u1:=Ru r.fields hb
 try simp at u1
 simp -implicitDefEqProofs [wY,u1]
 all_goals (repeat' split) <;> first | rfl | omega | (simp_all; done) | (simp_all; omega) | skip
end M
namespace M
open Go
theorem DZ (s : ah) : (gM s).length≤s.length + 1:=by
 unfold gM
 have h1:=List.length_filter_le (fun w : ah=>decide (w≠[])) ((cl 44 s).map dx)
 have h2:=H6 44 s
 simp only [List.length_map] at h1
 omega
theorem IA (s : ah) : ∀ w∈gM s,w.length≤s.length:=by
 intro w hw
 unfold gM at hw
 obtain ⟨x,hx,rfl⟩:=List.mem_map.1 (List.mem_filter.1 hw).1
 have h1:=H7 44 s x hx
 have h2:=Ip x
 omega
theorem JQ (ws : List ah) (hl0 : ws.length≤1073741825) (hb : ∀ w∈ws,w.length≤1073741824) : aK (ai (ev LI TT) (aj TT) uu) [(5,.row .own 1 ((fL b8 ws 0).map eS)),(6,.int .i64 0)] = some (.exit 0,[(5,.row .own 1 ((fL b8 ws (ws).length).map eS)),(6,.int .i64 (ws).length),(17,.bool false)]):=by
 refine eZ (f:=ai (ev LI TT) (aj TT) uu) (ws) (fun i=>[(5,.row .own 1 ((fL b8 ws i).map eS)),(6,.int .i64 i)]) _ (fun i b hi hl=>?_) ?_
 ·have hw:=aT i (by first | omega | (simp at hl; omega))
  obtain ⟨_,rfl⟩:=List.getElem?_eq_some_iff.1 hi
  have h1:=RL b8 ws i hl
  have h2:=RM b8 ws i hl
  have u1:=LY  ws[i] (hb _ (List.getElem_mem hl))
  try simp at u1
  simp -implicitDefEqProofs [uu,Df,hl,hw,u1,h1,h2,rowAt,-List.map_set]
 ·simp -implicitDefEqProofs [uu,Df,rowAt]
theorem L5 (fs : List aL) (hb : wL aM fs≤1073741824) : ev LI TT 203 [.row .af 2 (fs.map aI)] = some (.row .own 1 ((jw fs).map eS),[.dead]):=by
 rw [az (b:=yF) (rs:=[.t 2]) (n:=1) rfl rfl]
 have hfl:=aY (w:=aM) fs
 have hg:=AH fs gd
 have u1:=EG  fs gd (by omega)
 try simp at u1
 have u2:=L3  ((cQ fs gd).getD []) (by omega)
 try simp at u2
 have u3:=JQ  (gM ((cQ fs gd).getD [])) (by have:=DZ ((cQ fs gd).getD []); omega) (fun w hw=>by have:=IA _ w hw; omega)
 try simp at u3
 rw [RN,RI,show (gM ((cQ fs gd).getD [])).map b8 = jw fs from rfl] at u3
 simp -implicitDefEqProofs [yF,u1,u2,u3]
 all_goals (repeat' split) <;> first | rfl | omega | (simp_all; done) | (simp_all; omega) | skip
theorem I3 (ws : List ah) (hl0 : ws.length≤1073741825) (hb : ∀ w∈ws,w.length≤1073741824) : aK (ai (ev LI TT) (aj TT) sx) [(5,.row .own 1 (([]).map eS)),(14,.row .own 1 (ws.map eS)),(15,.int .i64 ws.length),(16,.int .i64 0)] = some (.exit 0,[(5,.row .own 1 ((((ws).flatMap (fun w=>[b8 w]))).map eS)),(14,.row .own 1 (ws.map eS)),(15,.int .i64 ws.length),(16,.int .i64 (ws).length),(17,.bool false)]):=by
 refine pO (f:=ai (ev LI TT) (aj TT) sx) (ws) (fun w=>[b8 w]) (fun i out=>[(5,.row .own 1 ((out).map eS)),(14,.row .own 1 (ws.map eS)),(15,.int .i64 ws.length),(16,.int .i64 i)]) (fun out=>[(5,.row .own 1 ((out).map eS)),(14,.row .own 1 (ws.map eS)),(15,.int .i64 ws.length),(16,.int .i64 (ws).length),(17,.bool false)]) (fun i b out hi hl hout=>?_) (fun out hout=>?_)
 ·have hw:=aT i (by first | omega | (simp at hl; omega))
  obtain ⟨_,rfl⟩:=List.getElem?_eq_some_iff.1 hi
  have hlo : out.length = i:=by rw [hout]; exact vP _ _ _ (by omega)
  have hlz : (i + 1) * 16≤140737488355328:=by omega
  have u1:=KH  ws[i] (hb _ (List.getElem_mem hl))
  try simp at u1
  simp -implicitDefEqProofs [sx,Bv,hl,hw,u1,hlo,hlz,dN]
 ·simp -implicitDefEqProofs [sx,Bv]
theorem KU (fs : List aL) (hb : wL aM fs≤1073741824) : ev LI TT 272 [.row .af 2 (fs.map aI)] = some (.row .own 1 ((jw fs).map eS),[.dead]):=by
 rw [az (b:=wT) (rs:=[.t 2]) (n:=1) rfl rfl]
 have hfl:=aY (w:=aM) fs
 have hg:=AH fs gd
 have u1:=Ep  fs gd (by omega)
 try simp at u1
 have u2:=KS  ((cQ fs gd).getD []) (by omega)
 try simp at u2
 have u3:=I3  (gM ((cQ fs gd).getD [])) (by have:=DZ ((cQ fs gd).getD []); omega) (fun w hw=>by have:=IA _ w hw; omega)
 try simp at u3
 rw [Ay,show (gM ((cQ fs gd).getD [])).map b8 = jw fs from rfl] at u3
 simp -implicitDefEqProofs [wT,u1,u2,u3]
 all_goals (repeat' split) <;> first | rfl | omega | (simp_all; done) | (simp_all; omega) | skip
theorem Ix (fs : List aL) : (jw fs).length≤wL aM fs + 1:=by
 have h1:=DZ ((cQ fs gd).getD [])
 have h2:=AH fs gd
 simp [jw]; omega
end M
namespace M
open Go
theorem JX (ps : List (ah×ah)) (hb : ps.length≤9223372036854775807) : aK (ai (ev LI TT) (aj TT) uW) [(0,.row .af 1 (ps.map fun x=>eS x.1)),(1,.row .af 1 (ps.map fun x=>eS x.2)),(12,.int .i64 ps.length),(13,.int .i64 0)] = if aZ cL (ps) = true then some (.exit 0,[(0,.row .af 1 (ps.map fun x=>eS x.1)),(1,.row .af 1 (ps.map fun x=>eS x.2)),(12,.int .i64 ps.length),(13,.int .i64 ps.length),(14,.bool false)]) else some (.ret,[(4,.bool false)]):=by
 refine cO (f:=ai (ev LI TT) (aj TT) uW) (ps) (fun i=>[(0,.row .af 1 (ps.map fun x=>eS x.1)),(1,.row .af 1 (ps.map fun x=>eS x.2)),(12,.int .i64 ps.length),(13,.int .i64 i)]) cL _ _ (fun i b hi hl=>?_) ?_
 ·have hw:=aT i (by first | omega | (simp at hl; omega))
  obtain ⟨_,rfl⟩:=List.getElem?_eq_some_iff.1 hi
  simp -implicitDefEqProofs [uW,D0,hl,hw,cL]
  first | done | (split <;> simp_all)
 ·simp -implicitDefEqProofs [uW,D0]
theorem Ae (a b : List ah) (hb : a.length≤9223372036854775807) : ev LI TT 243 [.row .af 1 (a.map eS),.row .af 1 (b.map eS)] = some (.bool (decide (a = b)),[.dead,.dead]):=by
 rw [az (b:=zC) (rs:=[.t 4]) (n:=2) rfl rfl]
 simp -implicitDefEqProofs [zC]
 by_cases h : a.length = b.length
 ·obtain ⟨ps,rfl,rfl⟩:=ov h
  have h1:=JX  ps (by simpa using hb)
  have h2:=mU ps
  simp at h1
  cases h3 : aZ cL ps <;> rw [h3] at h1 h2 <;> simp [h1,Function.comp_def,← h2]
 ·have : ¬ a = b:=fun e=>h (by rw [e])
  simp [this]
  omega
theorem IG : ∀ {a b : List ah},(∀ x∈a.zip b,¬ (decide (x.1≠x.2)) = true)→a.length = b.length→a = b
 | [],[],_,_=>rfl
 | x :: a,y :: b,h,hl=>by
  have h1:=h (x,y) (by simp)
  simp at h1
  have h2 : a = b:=IG (fun z hz=>h z (by simp only [List.zip_cons_cons]; exact List.mem_cons_of_mem _ hz)) (by simpa using hl)
  rw [h1,h2]
theorem WO {a b : List ah} {x : ah×ah} (hx : x∈a.zip b) (h : x.1≠x.2) : a≠b:=by
 rintro rfl
 have : ∀ {l : List ah} {x : ah×ah},x∈l.zip l→x.1 = x.2:=by
  intro l
  induction l with
  | nil=>intro x h; simp at h
  | cons y l ih =>
   intro x h
   simp only [List.zip_cons_cons,List.mem_cons] at h
   rcases h with rfl | h
   ·rfl
   ·exact ih h
 exact h (this hx)
theorem JV (a b : List ah) (hb : a.length≤9223372036854775807) (fX : b.length≤9223372036854775807) : aK (ai (ev LI TT) (aj TT) qj) [(0,.row .af 1 (a.map eS)),(1,.row .af 1 (b.map eS)),(5,.int .i64 0)] = (cB (fun x=>decide (x.1≠x.2)) 0 (a.zip b)).elim (some (.exit 0,[(0,.row .af 1 (a.map eS)),(1,.row .af 1 (b.map eS)),(5,.int .i64 (a.zip b).length),(15,.bool false)])) fun x=>some (.ret,(fun (i : Nat) b=>[(4,.bool false)]) x.1 x.2):=by
 refine tA (f:=ai (ev LI TT) (aj TT) qj) (a.zip b) (fun i=>[(0,.row .af 1 (a.map eS)),(1,.row .af 1 (b.map eS)),(5,.int .i64 i)]) (fun x=>decide (x.1≠x.2)) (fun (i : Nat) b=>[(4,.bool false)]) _ (fun i b hi hl=>?_) ?_
 ·have hw:=aT i (by first | omega | (simp at hl; omega))
  obtain ⟨_,rfl⟩:=List.getElem?_eq_some_iff.1 hi
  have ha : i < a.length:=by simp at hl; omega
  have hb' : i < b.length:=by simp at hl; omega
  simp -implicitDefEqProofs [qj,y6,hl,hw,ha,hb']
 ·have hz : (a.zip b).length = min a.length b.length:=by simp
  rw [hz]
  by_cases hh : a.length≤b.length
  ·rw [Nat.min_eq_left hh]; simp -implicitDefEqProofs [qj,y6]
  have h1 : b.length≤a.length:=by omega
  have h2 : (b.length : Int) < a.length:=by omega
  have h3 : b.length < a.length:=by omega
  rw [Nat.min_eq_right h1]
  simp -implicitDefEqProofs [qj,y6,h2,h3]
theorem Ac (a b : List ah) (hb : a.length≤9223372036854775807) (fX : b.length≤9223372036854775807) : ev LI TT 175 [.row .af 1 (a.map eS),.row .af 1 (b.map eS)] = some (.bool (decide (a = b)),[.dead,.dead]):=by
 rw [az (b:=qk) (rs:=[.t 4]) (n:=2) rfl rfl]
 have h:=JV  a b hb fX
 cases g : cB (fun x : ah×ah=>decide (x.1≠x.2)) 0 (a.zip b) with
 | some x =>
  obtain ⟨i,x⟩:=x
  obtain ⟨_,h1,h2⟩:=nw g
  have h3 : ¬ a = b:=WO (List.mem_of_getElem? h1) (by simpa using h2)
  rw [g] at h; simp only [Option.elim] at h; simp -implicitDefEqProofs [qk,h,h3]
 | none =>
 have h1:=Aw.1 g
 rw [g] at h
 simp only [Option.elim] at h
 try simp at h
 by_cases hl : a.length = b.length
 ·have h2:=IG h1 hl
  subst h2
  try simp at h
  simp -implicitDefEqProofs [qk,h]
 have h3 : ¬ a = b:=fun e=>hl (by rw [e])
 have h4 : ¬ (a.length : Int) = b.length:=by omega
 simp -implicitDefEqProofs [qk,h,h3,h4]
 all_goals (repeat' split) <;> first | rfl | omega | (simp_all; done) | (simp_all; omega) | skip
end M
namespace M
open Go
theorem JF (o : Ob) (hb : wL wS o.values≤1073741824) : aK (ai (ev LI TT) (aj TT) ud) [(1,.ptr .own (bq .af o)),(3,.int .i64 0)] = if aZ gi (o.values) = true then some (.exit 0,[(1,.ptr .own (bq .af o)),(3,.int .i64 (o.values).length),(49,.bool false)]) else some (.ret,[(2,.bool false)]):=by
 refine cO (f:=ai (ev LI TT) (aj TT) ud) (o.values) (fun i=>[(1,.ptr .own (bq .af o)),(3,.int .i64 i)]) gi _ _ (fun i b hi hl=>?_) ?_
 ·have hw:=aT i (by have:=aY (w:=wS) o.values; omega)
  obtain ⟨_,rfl⟩:=List.getElem?_eq_some_iff.1 hi
  have hm:=qw (List.getElem_mem hl)
  have u1:=z8  o.values[i] (by omega)
  try simp at u1
  simp -implicitDefEqProofs [ud,C5,hl,hw,u1]
  all_goals (repeat' split) <;> first | rfl | omega | (simp_all; done) | (simp_all; omega) | skip
 ·simp -implicitDefEqProofs [ud,C5]
theorem vr (o : Ob) (hb : aU o≤1073741824) : ev LI TT 108 [.agg (bq .af o)] = some (.bool ((dh o)),[.dead]):=by
 rw [az (b:=iP) (rs:=[.t 2]) (n:=1) rfl rfl]
 have hw : aU o = o.path.length + wL wS o.names + wL wS o.values + bD o.resp:=rfl
 have jJ : bD o.resp = wL aM o.resp.fields + o.resp.body.length:=rfl
 have hn:=aY (w:=wS) o.names
 have hv:=aY (w:=wS) o.values
 have hvl:=Ix o.resp.fields
 unfold dh tI
 have u1:=EH  o.resp (by omega)
 try simp at u1
 have u2:=EK  o.path (by omega)
 try simp at u2
 have u3:=Mc  o.names (by omega) (fun w hw=>by have:=qw hw; omega)
 try simp at u3
 have u4:=L5  o.resp.fields (by omega)
 try simp at u4
 have u5:=Ac  o.names (jw o.resp.fields) (by omega) (by omega)
 try simp at u5
 have u6:=JF  o (by omega)
 try simp at u6
 by_cases g1 : eH o.resp = true
 rotate_left
 ·simp -implicitDefEqProofs [iP,u1,u2,u3,u4,u5,u6,g1]
 by_cases g2 : ia o.path = true
 rotate_left
 ·simp -implicitDefEqProofs [iP,u1,u2,u3,u4,u5,u6,g1,g2]
 by_cases g3 : 0≤o.t
 rotate_left
 ·simp -implicitDefEqProofs [iP,u1,u2,u3,u4,u5,u6,g1,g2,eq_false g3]
 by_cases g4 : o.t≤1000000
 rotate_left
 ·simp -implicitDefEqProofs [iP,u1,u2,u3,u4,u5,u6,g1,g2,eq_true g3,eq_false g4]
 by_cases g5 : aZ ep o.names = true
 rotate_left
 ·simp -implicitDefEqProofs [iP,u1,u2,u3,u4,u5,u6,g1,g2,eq_true g3,eq_true g4,g5]
 by_cases g6 : (o.names.length : Int)≤4
 rotate_left
 ·simp -implicitDefEqProofs [iP,u1,u2,u3,u4,u5,u6,g1,g2,eq_true g3,eq_true g4,g5,eq_false g6]
 by_cases g7 : o.names = jw o.resp.fields
 rotate_left
 ·simp -implicitDefEqProofs [iP,u1,u2,u3,u4,u5,u6,g1,g2,eq_true g3,eq_true g4,g5,eq_true g6,eq_false g7]
 by_cases g8 : o.values.length = o.names.length
 rotate_left
 ·have jB : ¬ (o.values.length : Int) = o.names.length:=by omega
  simp -implicitDefEqProofs [iP,u1,u2,u3,u4,u5,u6,g1,g2,eq_true g3,eq_true g4,g5,eq_true g6,eq_true g7,eq_false g8,eq_false jB]
 have jB : (o.values.length : Int) = o.names.length:=by omega
 simp -implicitDefEqProofs [iP,u1,u2,u3,u4,u5,u6,g1,g2,eq_true g3,eq_true g4,g5,eq_true g6,eq_true g7,eq_true g8,eq_true jB]
 all_goals (repeat' split) <;> first | rfl | omega | (simp_all; done) | (simp_all; omega) | skip
theorem IX (o : Ob) (hb : wL wS o.values≤1073741824) : aK (ai (ev LI TT) (aj TT) r9) [(1,.ptr .own (bq .af o)),(5,.ax 1 [] 0 2),(6,.row .af 1 (o.values.map eS)),(7,.int .i64 o.values.length),(8,.int .i64 0)] = if aZ gi (o.values) = true then some (.exit 0,[(1,.ptr .own (bq .af o)),(5,.ax 1 [] 0 2),(6,.row .af 1 (o.values.map eS)),(7,.int .i64 o.values.length),(8,.int .i64 (o.values).length),(9,.bool false)]) else some (.ret,[(2,.bool false)]):=by
 refine cO (f:=ai (ev LI TT) (aj TT) r9) (o.values) (fun i=>[(1,.ptr .own (bq .af o)),(5,.ax 1 [] 0 2),(6,.row .af 1 (o.values.map eS)),(7,.int .i64 o.values.length),(8,.int .i64 i)]) gi _ _ (fun i b hi hl=>?_) ?_
 ·have hw:=aT i (by have:=aY (w:=wS) o.values; omega)
  obtain ⟨_,rfl⟩:=List.getElem?_eq_some_iff.1 hi
  have hm:=qw (List.getElem_mem hl)
  have u1:=zU  o.values[i] (by omega)
  try simp at u1
  simp -implicitDefEqProofs [r9,Bj,hl,hw,u1]
  all_goals (repeat' split) <;> first | rfl | omega | (simp_all; done) | (simp_all; omega) | skip
 ·simp -implicitDefEqProofs [r9,Bj]
theorem vp (o : Ob) (hb : aU o≤1073741824) : ev LI TT 205 [.agg (bq .af o)] = some (.bool ((dh o)),[.dead]):=by
 rw [az (b:=iJ) (rs:=[.t 2]) (n:=1) rfl rfl]
 have hw : aU o = o.path.length + wL wS o.names + wL wS o.values + bD o.resp:=rfl
 have jJ : bD o.resp = wL aM o.resp.fields + o.resp.body.length:=rfl
 have hn:=aY (w:=wS) o.names
 have hv:=aY (w:=wS) o.values
 have hvl:=Ix o.resp.fields
 unfold dh tI
 have u1:=Er  o.resp (by omega)
 try simp at u1
 have u2:=Ew  o.path (by omega)
 try simp at u2
 have u3:=K5  o.names (by omega) (fun w hw=>by have:=qw hw; omega)
 try simp at u3
 have u4:=KU  o.resp.fields (by omega)
 try simp at u4
 have u5:=Ae  o.names (jw o.resp.fields) (by omega)
 try simp at u5
 have u6:=IX  o (by omega)
 try simp at u6
 by_cases g1 : aZ gi o.values = true
 rotate_left
 ·simp -implicitDefEqProofs [iJ,u1,u2,u3,u4,u5,u6,g1]
 by_cases g2 : ia o.path = true
 rotate_left
 ·simp -implicitDefEqProofs [iJ,u1,u2,u3,u4,u5,u6,g1,g2]
 by_cases g3 : 0≤o.t
 rotate_left
 ·simp -implicitDefEqProofs [iJ,u1,u2,u3,u4,u5,u6,g1,g2,eq_false g3]
 by_cases g4 : o.t≤1000000
 rotate_left
 ·simp -implicitDefEqProofs [iJ,u1,u2,u3,u4,u5,u6,g1,g2,eq_true g3,eq_false g4]
 by_cases g8 : o.values.length = o.names.length
 rotate_left
 ·have jB : ¬ (o.values.length : Int) = o.names.length:=by omega
  simp -implicitDefEqProofs [iJ,u1,u2,u3,u4,u5,u6,g1,g2,eq_true g3,eq_true g4,eq_false g8,eq_false jB]
 have jB : (o.values.length : Int) = o.names.length:=by omega
 by_cases h5 : aZ ep o.names = true
 rotate_left
 ·simp -implicitDefEqProofs [iJ,u1,u2,u3,u4,u5,u6,g1,g2,eq_true g3,eq_true g4,eq_true g8,eq_true jB,h5]
 by_cases h6 : (o.names.length : Int)≤4
 rotate_left
 ·simp -implicitDefEqProofs [iJ,u1,u2,u3,u4,u5,u6,g1,g2,eq_true g3,eq_true g4,eq_true g8,eq_true jB,h5,eq_false h6]
 by_cases h7 : eH o.resp = true
 rotate_left
 ·simp -implicitDefEqProofs [iJ,u1,u2,u3,u4,u5,u6,g1,g2,eq_true g3,eq_true g4,eq_true g8,eq_true jB,h5,eq_true h6,h7]
 simp -implicitDefEqProofs [iJ,u1,u2,u3,u4,u5,u6,g1,g2,eq_true g3,eq_true g4,eq_true g8,eq_true jB,h5,eq_true h6,h7]
 all_goals (repeat' split) <;> first | rfl | omega | (simp_all; done) | (simp_all; omega) | skip
theorem EE (b : Bn) (hb : aP b≤1073741824) : ev LI TT 94 [.agg (aQ b)] = some (.bool ((gq b)),[.dead]):=by
 rw [az (b:=kY) (rs:=[.t 2]) (n:=1) rfl rfl]
 have hw : aP b = b.a.length + b.b.length:=rfl
 unfold gq
 have u1:=EK  b.a (by omega)
 try simp at u1
 have u2:=z6  b.a (by omega)
 try simp at u2
 have u3:=z8  b.b (by omega)
 try simp at u3
 by_cases g1 : 0≤b.t
 rotate_left
 ·simp -implicitDefEqProofs [kY,u1,u2,u3,eq_false g1]
 by_cases g2 : b.t≤1000000
 rotate_left
 ·simp -implicitDefEqProofs [kY,u1,u2,u3,eq_true g1,eq_false g2]
 by_cases h1 : b.kind = 1
 ·by_cases h2 : ia b.a = true <;> simp -implicitDefEqProofs [kY,u1,u2,u3,eq_true g1,eq_true g2,h1,h2]
 by_cases h2 : b.kind = 2
 ·by_cases h3 : ia b.a = true <;> simp -implicitDefEqProofs [kY,u1,u2,u3,eq_true g1,eq_true g2,h2,h3]
 by_cases h3 : b.kind = 3
 ·by_cases h4 : ep b.a = true <;> simp -implicitDefEqProofs [kY,u1,u2,u3,eq_true g1,eq_true g2,h3,h4]
 simp -implicitDefEqProofs [kY,u1,u2,u3,eq_true g1,eq_true g2,h1,h2,h3]
 all_goals (repeat' split) <;> first | rfl | omega | (simp_all; done) | (simp_all; omega) | skip
theorem Eo (b : Bn) (hb : aP b≤1073741824) : ev LI TT 178 [.agg (aQ b)] = some (.bool ((gq b)),[.dead]):=by
 rw [az (b:=kJ) (rs:=[.t 2]) (n:=1) rfl rfl]
 have hw : aP b = b.a.length + b.b.length:=rfl
 unfold gq
 have u1:=Ew  b.a (by omega)
 try simp at u1
 have u2:=zT  b.a (by omega)
 try simp at u2
 have u3:=zU  b.b (by omega)
 try simp at u3
 by_cases g1 : 0≤b.t
 rotate_left
 ·simp -implicitDefEqProofs [kJ,u1,u2,u3,eq_false g1]
 by_cases g2 : b.t≤1000000
 rotate_left
 ·simp -implicitDefEqProofs [kJ,u1,u2,u3,eq_true g1,eq_false g2]
 by_cases h1 : b.kind = 1
 ·by_cases h2 : ia b.a = true <;> simp -implicitDefEqProofs [kJ,u1,u2,u3,eq_true g1,eq_true g2,h1,h2]
 by_cases h2 : b.kind = 2
 ·by_cases h3 : ia b.a = true <;> simp -implicitDefEqProofs [kJ,u1,u2,u3,eq_true g1,eq_true g2,h2,h3]
 by_cases h3 : b.kind = 3
 ·by_cases h4 : ep b.a = true <;> simp -implicitDefEqProofs [kJ,u1,u2,u3,eq_true g1,eq_true g2,h3,h4]
 simp -implicitDefEqProofs [kJ,u1,u2,u3,eq_true g1,eq_true g2,h1,h2,h3]
 all_goals (repeat' split) <;> first | rfl | omega | (simp_all; done) | (simp_all; omega) | skip
@[simp] theorem Xj (t : Int) : ev LI TT 219 [.int .i64 t] = some (.bool ((decide (0≤t∧t≤19))),[.dead]):=by
 rw [az (b:=w7) (rs:=[.t 2]) (n:=1) rfl rfl]
 simp -implicitDefEqProofs [w7]
 all_goals (repeat' split) <;> first | rfl | omega | (simp_all; done) | (simp_all; omega) | skip
@[simp] theorem Xk (t : Int) : ev LI TT 179 [.int .i64 t] = some (.bool ((decide (5≤t∧t≤19))),[.dead]):=by
 rw [az (b:=w8) (rs:=[.t 2]) (n:=1) rfl rfl]
 simp -implicitDefEqProofs [w8]
 all_goals (repeat' split) <;> first | rfl | omega | (simp_all; done) | (simp_all; omega) | skip
theorem Jy (d : cg) (hb : d.pending.length≤9223372036854775807) : aK (ai (ev LI TT) (aj TT) tX) [(1,.ptr .own (cu .af d)),(3,.int .i64 0)] = if aZ mF (d.pending) = true then some (.exit 0,[(1,.ptr .own (cu .af d)),(3,.int .i64 (d.pending).length),(8,.bool false)]) else some (.ret,[(2,.bool false)]):=by
 refine cO (f:=ai (ev LI TT) (aj TT) tX) (d.pending) (fun i=>[(1,.ptr .own (cu .af d)),(3,.int .i64 i)]) mF _ _ (fun i b hi hl=>?_) ?_
 ·have hw:=aT i (by first | omega | (simp at hl; omega))
  obtain ⟨_,rfl⟩:=List.getElem?_eq_some_iff.1 hi
  simp -implicitDefEqProofs [tX,CZ,hl,hw,mF]
  all_goals (repeat' split) <;> first | rfl | omega | (simp_all; done) | (simp_all; omega) | skip
 ·simp -implicitDefEqProofs [tX,CZ]
theorem zZ (d : cg) (hb : d.pending.length≤9223372036854775807) : ev LI TT 119 [.agg (cu .af d)] = some (.bool ((ei d)),[.dead]):=by
 rw [az (b:=yo) (rs:=[.t 2]) (n:=1) rfl rfl]
 unfold ei
 have u1:=Jy  d hb
 try simp at u1
 simp -implicitDefEqProofs [yo,u1]
 all_goals (repeat' split) <;> first | rfl | omega | (simp_all; done) | (simp_all; omega) | skip
theorem IP (d : cg) (hb : d.pending.length≤9223372036854775807) : aK (ai (ev LI TT) (aj TT) rV) [(1,.ptr .own (cu .af d)),(5,.ax 1 [] 0 1),(6,.row .af 2 (d.pending.map eW)),(7,.int .i64 d.pending.length),(8,.int .i64 0)] = if aZ mF (d.pending) = true then some (.exit 0,[(1,.ptr .own (cu .af d)),(5,.ax 1 [] 0 1),(6,.row .af 2 (d.pending.map eW)),(7,.int .i64 d.pending.length),(8,.int .i64 (d.pending).length),(9,.bool false)]) else some (.ret,[(2,.bool false)]):=by
 refine cO (f:=ai (ev LI TT) (aj TT) rV) (d.pending) (fun i=>[(1,.ptr .own (cu .af d)),(5,.ax 1 [] 0 1),(6,.row .af 2 (d.pending.map eW)),(7,.int .i64 d.pending.length),(8,.int .i64 i)]) mF _ _ (fun i b hi hl=>?_) ?_
 ·have hw:=aT i (by first | omega | (simp at hl; omega))
  obtain ⟨_,rfl⟩:=List.getElem?_eq_some_iff.1 hi
  simp -implicitDefEqProofs [rV,Bg,hl,hw,mF]
  all_goals (repeat' split) <;> first | rfl | omega | (simp_all; done) | (simp_all; omega) | skip
 ·simp -implicitDefEqProofs [rV,Bg]
theorem KA (d : cg) (hb : d.pending.length≤9223372036854775807) : ev LI TT 128 [.agg (cu .af d)] = some (.bool ((ei d)),[.dead]):=by
 rw [az (b:=wE) (rs:=[.t 2]) (n:=1) rfl rfl]
 unfold ei
 have u1:=IP  d hb
 try simp at u1
 simp -implicitDefEqProofs [wE,u1]
 all_goals (repeat' split) <;> first | rfl | omega | (simp_all; done) | (simp_all; omega) | skip
end M
namespace M
open Go
theorem JH (s : Sh) (hb : bF s≤1073741824) : aK (ai (ev LI TT) (aj TT) uh) [(1,.ptr .own (bk .af s)),(3,.int .i64 0)] = if aZ gq (s.aJ) = true then some (.exit 0,[(1,.ptr .own (bk .af s)),(3,.int .i64 (s.aJ).length),(33,.bool false)]) else some (.ret,[(2,.bool false)]):=by
 refine cO (f:=ai (ev LI TT) (aj TT) uh) (s.aJ) (fun i=>[(1,.ptr .own (bk .af s)),(3,.int .i64 i)]) gq _ _ (fun i b hi hl=>?_) ?_
 ·have hw:=aT i (by have fI : bF s = bN s.aE + wL aR s.ay + wL aP s.aJ:=rfl; have:=aY (w:=aP) s.aJ; omega)
  obtain ⟨_,rfl⟩:=List.getElem?_eq_some_iff.1 hi
  have fI : bF s = bN s.aE + wL aR s.ay + wL aP s.aJ:=rfl
  have hm:=zy (List.getElem_mem hl)
  have u1:=EE  s.aJ[i] (by omega)
  try simp at u1
  simp -implicitDefEqProofs [uh,C7,hl,hw,u1]
  all_goals (repeat' split) <;> first | rfl | omega | (simp_all; done) | (simp_all; omega) | skip
 ·simp -implicitDefEqProofs [uh,C7]
theorem JI (s : Sh) (n : Nat) (k : Kp) (hn : n≤s.ay.length) (hb : s.ay.length≤1073741824) : aK (ai (ev LI TT) (aj TT) uj) [(1,.ptr .own (bk .af s)),(4,.int .i64 n),(5,.ptr .own (aB .af k)),(6,.int .i64 0)] = if aZ (fun y=>decide ¬ y.at_ = k.at_) (s.ay.take n) = true then some (.exit 4,[(1,.ptr .own (bk .af s)),(4,.int .i64 n),(5,.ptr .own (aB .af k)),(6,.int .i64 (s.ay.take n).length),(92,.bool false)]) else some (.ret,[(2,.bool false)]):=by
 refine cO (f:=ai (ev LI TT) (aj TT) uj) (s.ay.take n) (fun i=>[(1,.ptr .own (bk .af s)),(4,.int .i64 n),(5,.ptr .own (aB .af k)),(6,.int .i64 i)]) (fun y=>decide ¬ y.at_ = k.at_) _ _ (fun i b hi hl=>?_) ?_
 ·have hw:=aT i (by first | omega | (simp at hl; omega))
  obtain ⟨_,rfl⟩:=List.getElem?_eq_some_iff.1 hi
  have h1 : i < n:=by simp at hl; omega
  have h2 : i < s.ay.length:=by omega
  simp -implicitDefEqProofs [uj,C8,hl,hw,h1,h2]
  all_goals (repeat' split) <;> first | rfl | omega | (simp_all; done) | (simp_all; omega) | skip
 ·have hmin : min n s.ay.length = n:=by omega
  simp -implicitDefEqProofs [uj,C8,hmin]
theorem JJ (s : Sh) (hb : bF s≤1073741824) (hs : 1≤s.seq∧s.seq≤100000) : aK (ai (ev LI TT) (aj TT) iQ) [(1,.ptr .own (bk .af s)),(4,.int .i64 0)] = if aZ (gY s.seq s.ay) (s.ay.zipIdx) = true then some (.exit 2,[(1,.ptr .own (bk .af s)),(4,.int .i64 (s.ay.zipIdx).length),(47,.bool false)]) else some (.ret,[(2,.bool false)]):=by
 refine cO (f:=ai (ev LI TT) (aj TT) iQ) (s.ay.zipIdx) (fun i=>[(1,.ptr .own (bk .af s)),(4,.int .i64 i)]) (gY s.seq s.ay) _ _ (fun i b hi hl=>?_) ?_
 ·have hw:=aT i (by have fI : bF s = bN s.aE + wL aR s.ay + wL aP s.aJ:=rfl; have:=aY (w:=aR) s.ay; simp at hl; omega)
  obtain ⟨_,rfl⟩:=List.getElem?_eq_some_iff.1 hi
  simp only [List.length_zipIdx] at hl
  have fI : bF s = bN s.aE + wL aR s.ay + wL aP s.aJ:=rfl
  have hlen:=aY (w:=aR) s.ay
  have hz : s.ay.zipIdx[i]'(by simpa using hl) = (s.ay[i],i):=by simp
  have hm:=qv (List.getElem_mem hl)
  have hS : IntKind.i64.wrap (s.seq - 1) = s.seq - 1:=aN (by omega) (by omega)
  rw [hz]
  have hmin : min i s.ay.length = i:=by omega
  have u1:=vr  s.ay[i].obj (by omega)
  try simp at u1
  have u2:=JI  s i s.ay[i] (by omega) (by omega)
  try simp at u2
  by_cases g1 : dh (s.ay[i]).obj = true
  rotate_left
  ·simp -implicitDefEqProofs [iQ,jX,hl,hw,u1,u2,gY,hS,hmin,g1]
  by_cases g2 : 5≤(s.ay[i]).at_
  rotate_left
  ·simp -implicitDefEqProofs [iQ,jX,hl,hw,u1,u2,gY,hS,hmin,g1,eq_false g2]
  by_cases g3 : (s.ay[i]).at_≤19
  rotate_left
  ·simp -implicitDefEqProofs [iQ,jX,hl,hw,u1,u2,gY,hS,hmin,g1,eq_true g2,eq_false g3]
  by_cases g4 : 1≤(s.ay[i]).seq
  rotate_left
  ·simp -implicitDefEqProofs [iQ,jX,hl,hw,u1,u2,gY,hS,hmin,g1,eq_true g2,eq_true g3,eq_false g4]
  by_cases g5 : (s.ay[i]).seq≤s.seq - 1
  rotate_left
  ·simp -implicitDefEqProofs [iQ,jX,hl,hw,u1,u2,gY,hS,hmin,g1,eq_true g2,eq_true g3,eq_true g4,eq_false g5]
  by_cases g6 : i = 0
  ·subst g6
   try simp at u2 hw
   simp -implicitDefEqProofs [iQ,jX,hl,hw,u1,u2,gY,hS,hmin,g1,eq_true g2,eq_true g3,eq_true g4,eq_true g5]
  obtain ⟨j,rfl⟩ : ∃ j,i = j + 1:=⟨i - 1,by omega⟩
  have hj : j < s.ay.length:=by omega
  have hJ : IntKind.i64.wrap (j : Int) = j:=aN (by omega) (by omega)
  have hp:=CN s.ay j hj
  try simp at u2 hw hS
  have hpos : (0 : Int) < (j : Int) + 1:=by omega
  have hlc : (j : Int) + 1 < s.ay.length:=by omega
  have eX : (0 : Int)≤(j : Int) + 1:=by omega
  by_cases g7 : (s.ay[j]).seq < (s.ay[j + 1]).seq
  rotate_left
  ·have AE : (s.ay[j + 1]).seq≤(s.ay[j]).seq:=by omega
   simp -implicitDefEqProofs [iQ,jX,hl,hw,u1,u2,gY,hS,hmin,g1,eq_true g2,eq_true g3,eq_true g4,eq_true g5,hj,hJ,hp,hpos,hlc,eX,eq_false g7,eq_true AE]
  have AE : ¬ (s.ay[j + 1]).seq≤(s.ay[j]).seq:=by omega
  simp -implicitDefEqProofs [iQ,jX,hl,hw,u1,u2,gY,hS,hmin,g1,eq_true g2,eq_true g3,eq_true g4,eq_true g5,hj,hJ,hp,hpos,hlc,eX,eq_true g7,eq_false AE]
  all_goals (repeat' split) <;> first | rfl | omega | (simp_all; done) | (simp_all; omega) | skip
 ·simp -implicitDefEqProofs [iQ,jX]
theorem L2 (s : Sh) (hb : bF s≤1073741824) : ev LI TT 89 [.agg (bk .af s)] = some (.bool ((dW s)),[.dead]):=by
 rw [az (b:=jY) (rs:=[.t 2]) (n:=1) rfl rfl]
 have fI : bF s = bN s.aE + wL aR s.ay + wL aP s.aJ:=rfl
 have Bd : bN s.aE = wL wS s.aE.cells + wL br s.aE.pending:=rfl
 have hlen:=aY (w:=br) s.aE.pending
 unfold dW
 have u1:=zZ  s.aE (by omega)
 try simp at u1
 have u2:=JH  s hb
 try simp at u2
 by_cases g1 : ei s.aE = true
 rotate_left
 ·simp -implicitDefEqProofs [jY,u1,u2,g1]
 by_cases g2 : (s.aJ.length : Int)≤5
 rotate_left
 ·simp -implicitDefEqProofs [jY,u1,u2,g1,eq_false g2]
 by_cases g3 : 5≤s.next
 rotate_left
 ·simp -implicitDefEqProofs [jY,u1,u2,g1,eq_true g2,eq_false g3]
 by_cases g4 : s.next≤19
 rotate_left
 ·simp -implicitDefEqProofs [jY,u1,u2,g1,eq_true g2,eq_true g3,eq_false g4]
 by_cases g5 : 1≤s.seq
 rotate_left
 ·simp -implicitDefEqProofs [jY,u1,u2,g1,eq_true g2,eq_true g3,eq_true g4,eq_false g5]
 by_cases g6 : s.seq≤100000
 rotate_left
 ·simp -implicitDefEqProofs [jY,u1,u2,g1,eq_true g2,eq_true g3,eq_true g4,eq_true g5,eq_false g6]
 have u3:=JJ s hb ⟨by omega,by omega⟩
 rw [Rz] at u3
 simp at u3
 have PY : ¬ 5 < (s.aJ.length : Int):=by omega
 simp -implicitDefEqProofs [jY,u1,u2,g1,eq_true g2,eq_true g3,eq_true g4,eq_true g5,eq_true g6,u3,PY]
 all_goals (repeat' split) <;> first | rfl | omega | (simp_all; done) | (simp_all; omega) | skip
end M
namespace M
open Go
theorem KQ (x k : Kp) : ev LI TT 262 [.agg (aB .af x),.ptr .af (aB .af k)] = some (.bool (decide (x.at_ = k.at_)),[.dead,.dead]):=by
 rw [az (b:=wK) (rs:=[.t 3]) (n:=2) rfl rfl]
 simp -implicitDefEqProofs [wK]
 all_goals (repeat' split) <;> first | rfl | omega | (simp_all; done) | (simp_all; omega) | skip
theorem JZ (l : List Kp) (k : Kp) (gf : Nat) (p : Kp→Bool) (ho : aj TT gf = true) (hf : ∀ x∈l,ev LI TT gf [.agg (aB .af x),.ptr .af (aB .af k)] = some (.bool (p x),[.dead,.dead])) (hb : l.length≤9223372036854775807) : aK (ai (ev LI TT) (aj TT) lz) [(0,.row .af 9 (l.map (aB .af))),(1,.fn gf [.ptr .af (aB .af k)]),(7,.int .i64 l.length),(8,.int .i64 0)] = (cB p 0 (l)).elim (some (.exit 0,[(0,.row .af 9 (l.map (aB .af))),(1,.fn gf [.ptr .af (aB .af k)]),(7,.int .i64 l.length),(8,.int .i64 (l).length),(9,.bool false)])) fun x=>some (.ret,(fun (i : Nat) b=>[(4,.int .i64 i)]) x.1 x.2):=by
 refine tA (f:=ai (ev LI TT) (aj TT) lz) (l) (fun i=>[(0,.row .af 9 (l.map (aB .af))),(1,.fn gf [.ptr .af (aB .af k)]),(7,.int .i64 l.length),(8,.int .i64 i)]) p (fun (i : Nat) b=>[(4,.int .i64 i)]) _ (fun i b hi hl=>?_) ?_
 ·have hw:=aT i (by first | omega | (simp at hl; omega))
  obtain ⟨_,rfl⟩:=List.getElem?_eq_some_iff.1 hi
  have u1:=hf l[i] (List.getElem_mem hl)
  try simp at u1
  simp -implicitDefEqProofs [lz,uZ,hl,hw,u1,ho,nO]
  all_goals (repeat' split) <;> first | rfl | omega | (simp_all; done) | (simp_all; omega) | skip
 ·simp -implicitDefEqProofs [lz,uZ]
theorem Ml (l : List Kp) (k : Kp) (gf : Nat) (p : Kp→Bool) (ho : aj TT gf = true) (hf : ∀ x∈l,ev LI TT gf [.agg (aB .af x),.ptr .af (aB .af k)] = some (.bool (p x),[.dead,.dead])) (hb : l.length≤9223372036854775807) : ev LI TT 268 [.row .af 9 (l.map (aB .af)),.fn gf [.ptr .af (aB .af k)]] = some (.int .i64 ((cB p 0 l).elim (-1) fun x=>(x.1 : Int)),[.dead,.dead]):=by
 rw [az (b:=mM) (rs:=[.t 4]) (n:=2) rfl rfl]
 have u1:=JZ  l k gf p ho hf hb
 try simp at u1
 cases g : cB p 0 l with
 | none=>rw [g] at u1; simp at u1; simp -implicitDefEqProofs [mM,u1]
 | some x =>
 rw [g] at u1
 simp at u1
 simp -implicitDefEqProofs [mM,u1]
 all_goals (repeat' split) <;> first | rfl | omega | (simp_all; done) | (simp_all; omega) | skip
theorem Mj (l : List Kp) (k : Kp) (gf : Nat) (p : Kp→Bool) (ho : aj TT gf = true) (hf : ∀ x∈l,ev LI TT gf [.agg (aB .af x),.ptr .af (aB .af k)] = some (.bool (p x),[.dead,.dead])) (hb : l.length≤9223372036854775807) : ev LI TT 223 [.row .af 9 (l.map (aB .af)),.fn gf [.ptr .af (aB .af k)]] = some (.bool (!aZ (fun x=>!p x) l),[.dead,.dead]):=by
 rw [az (b:=uU) (rs:=[.t 4]) (n:=2) rfl rfl]
 have u1:=Ml  l k gf p ho hf hb
 try simp at u1
 rw [← FE p l 0]
 cases g : cB p 0 l with
 | none=>rw [g] at u1; simp at u1; simp -implicitDefEqProofs [uU,u1]
 | some x =>
 rw [g] at u1
 simp at u1
 simp -implicitDefEqProofs [uU,u1]
 all_goals (repeat' split) <;> first | rfl | omega | (simp_all; done) | (simp_all; omega) | skip
theorem I7 (s : Sh) (hb : bF s≤1073741824) : ∃ sl,aK (ai (ev LI TT) (aj TT) jj) [(0,.ptr .af (bk .af s)),(3,.int .i64 0),(7,.ptr .af (bk .af s)),(8,.ptr .af (bk .af s)),(9,.ptr .af ((bk .af s).drop 2)),(10,.row .af 9 (s.ay.map (aB .af))),(11,.int .i64 s.ay.length),(12,.int .i64 0)] = if pX s.seq s.ay = true then some (.exit 0,sl) else some (.ret,[(2,.bool false)]):=by
 have fI : bF s = bN s.aE + wL aR s.ay + wL aP s.aJ:=rfl
 have hlen:=aY (w:=aR) s.ay
 refine ⟨_,cO (f:=ai (ev LI TT) (aj TT) jj) s.ay.zipIdx (fun i=>[(0,.ptr .af (bk .af s)),(3,.int .i64 (js s.ay i)),(7,.ptr .af (bk .af s)),(8,.ptr .af (bk .af s)),(9,.ptr .af ((bk .af s).drop 2)),(10,.row .af 9 (s.ay.map (aB .af))),(11,.int .i64 s.ay.length),(12,.int .i64 i)]) (nQ s.seq s.ay) [(2,.bool false)] [(0,.ptr .af (bk .af s)),(3,.int .i64 (js s.ay s.ay.length)),(7,.ptr .af (bk .af s)),(8,.ptr .af (bk .af s)),(9,.ptr .af ((bk .af s).drop 2)),(10,.row .af 9 (s.ay.map (aB .af))),(11,.int .i64 s.ay.length),(12,.int .i64 s.ay.length),(13,.bool false)] (fun i b hi hl=>?_) ?_⟩
 ·simp only [List.length_zipIdx] at hl
  have hw:=aT i (by omega)
  obtain ⟨_,rfl⟩:=List.getElem?_eq_some_iff.1 hi
  have hz : s.ay.zipIdx[i]'(by simpa using hl) = (s.ay[i],i):=by simp
  have hm:=qv (List.getElem_mem hl)
  have hp:=CN s.ay i hl
  rw [hz]
  have hs : cF [] = true:=rfl
  have u1:=vp s.ay[i].obj (by omega)
  have u2:=Mj (s.ay.take i) s.ay[i] 262 (fun x=>decide (x.at_ = (s.ay[i]).at_)) rfl (fun x _=>KQ x s.ay[i]) (by simp; omega)
  have hle : (i : Int)≤s.ay.length:=by omega
  have nA : i≤s.ay.length:=by omega
  simp at u1 u2
  unfold nQ
  by_cases g1 : dh (s.ay[i]).obj = true
  rotate_left
  ·simp -implicitDefEqProofs [jj,kM,hl,hw,hle,nA,gI,eo,dJ,u1,u2,g1]
  by_cases g2 : 5≤(s.ay[i]).at_
  rotate_left
  ·simp -implicitDefEqProofs [jj,kM,hl,hw,hle,nA,gI,eo,dJ,u1,u2,g1,eq_false g2]
  by_cases g3 : (s.ay[i]).at_≤19
  rotate_left
  ·simp -implicitDefEqProofs [jj,kM,hl,hw,hle,nA,gI,eo,dJ,u1,u2,g1,eq_true g2,eq_false g3]
  by_cases g4 : aZ (fun y : Kp=>!decide (y.at_ = (s.ay[i]).at_)) (s.ay.take i) = true
  rotate_left
  ·simp -implicitDefEqProofs [jj,kM,hl,hw,hle,nA,gI,eo,dJ,u1,u2,g1,eq_true g2,eq_true g3,g4]
  by_cases g5 : js s.ay i < (s.ay[i]).seq
  rotate_left
  ·have vV : (s.ay[i]).seq≤js s.ay i:=by omega
   simp -implicitDefEqProofs [jj,kM,hl,hw,hle,nA,gI,eo,dJ,u1,u2,g1,eq_true g2,eq_true g3,g4,eq_false g5,eq_true vV]
  have vV : ¬ (s.ay[i]).seq≤js s.ay i:=by omega
  by_cases g6 : (s.ay[i]).seq < s.seq
  rotate_left
  ·have AD : s.seq≤(s.ay[i]).seq:=by omega
   simp -implicitDefEqProofs [jj,kM,hl,hw,hle,nA,gI,eo,dJ,u1,u2,g1,eq_true g2,eq_true g3,g4,eq_true g5,eq_false vV,eq_false g6,eq_true AD]
  have AD : ¬ s.seq≤(s.ay[i]).seq:=by omega
  simp -implicitDefEqProofs [jj,kM,hl,hw,hle,nA,gI,eo,dJ,u1,u2,g1,eq_true g2,eq_true g3,g4,eq_true g5,eq_false vV,eq_true g6,eq_false AD,hp]
 ·simp -implicitDefEqProofs [jj,kM]
theorem KP (s : Sh) (hb : bF s≤1073741824) : ev LI TT 181 [.ptr .af (bk .af s)] = some (.bool (pX s.seq s.ay),[.dead]):=by
 rw [az (b:=wM) (rs:=[.t 2]) (n:=1) rfl rfl]
 obtain ⟨sl,u1⟩:=I7 s hb
 simp at u1
 simp -implicitDefEqProofs [wM,u1]
 all_goals (repeat' split) <;> first | rfl | omega | (simp_all; done) | (simp_all; omega) | skip
theorem IZ (s : Sh) (hb : bF s≤1073741824) : aK (ai (ev LI TT) (aj TT) sn) [(1,.ptr .own (bk .af s)),(5,.ax 1 [] 0 3),(6,.row .af 4 (s.aJ.map aQ)),(7,.int .i64 s.aJ.length),(8,.int .i64 0)] = if aZ gq (s.aJ) = true then some (.exit 0,[(1,.ptr .own (bk .af s)),(5,.ax 1 [] 0 3),(6,.row .af 4 (s.aJ.map aQ)),(7,.int .i64 s.aJ.length),(8,.int .i64 (s.aJ).length),(9,.bool false)]) else some (.ret,[(2,.bool false)]):=by
 refine cO (f:=ai (ev LI TT) (aj TT) sn) (s.aJ) (fun i=>[(1,.ptr .own (bk .af s)),(5,.ax 1 [] 0 3),(6,.row .af 4 (s.aJ.map aQ)),(7,.int .i64 s.aJ.length),(8,.int .i64 i)]) gq _ _ (fun i b hi hl=>?_) ?_
 ·have hw:=aT i (by have fI : bF s = bN s.aE + wL aR s.ay + wL aP s.aJ:=rfl; have:=aY (w:=aP) s.aJ; omega)
  obtain ⟨_,rfl⟩:=List.getElem?_eq_some_iff.1 hi
  have fI : bF s = bN s.aE + wL aR s.ay + wL aP s.aJ:=rfl
  have hm:=zy (List.getElem_mem hl)
  have u1:=Eo  s.aJ[i] (by omega)
  try simp at u1
  simp -implicitDefEqProofs [sn,Bl,hl,hw,u1]
  all_goals (repeat' split) <;> first | rfl | omega | (simp_all; done) | (simp_all; omega) | skip
 ·simp -implicitDefEqProofs [sn,Bl]
theorem KM (s : Sh) (hb : bF s≤1073741824) : ev LI TT 92 [.agg (bk .af s)] = some (.bool ((dW s)),[.dead]):=by
 rw [az (b:=ji) (rs:=[.t 2]) (n:=1) rfl rfl]
 have fI : bF s = bN s.aE + wL aR s.ay + wL aP s.aJ:=rfl
 have Bd : bN s.aE = wL wS s.aE.cells + wL br s.aE.pending:=rfl
 have hlen:=aY (w:=br) s.aE.pending
 unfold dW
 have u1:=KA  s.aE (by omega)
 try simp at u1
 have u2:=IZ  s hb
 try simp at u2
 have u3:=KP  s hb
 try simp at u3
 by_cases g1 : aZ gq s.aJ = true
 rotate_left
 ·simp -implicitDefEqProofs [ji,u1,u2,u3,g1]
 by_cases g2 : (s.aJ.length : Int)≤5
 rotate_left
 ·simp -implicitDefEqProofs [ji,u1,u2,u3,g1,eq_false g2]
 by_cases g3 : 5≤s.next
 rotate_left
 ·simp -implicitDefEqProofs [ji,u1,u2,u3,g1,eq_true g2,eq_false g3]
 by_cases g4 : s.next≤19
 rotate_left
 ·simp -implicitDefEqProofs [ji,u1,u2,u3,g1,eq_true g2,eq_true g3,eq_false g4]
 by_cases g5 : 1≤s.seq
 rotate_left
 ·simp -implicitDefEqProofs [ji,u1,u2,u3,g1,eq_true g2,eq_true g3,eq_true g4,eq_false g5]
 by_cases g6 : s.seq≤100000
 rotate_left
 ·simp -implicitDefEqProofs [ji,u1,u2,u3,g1,eq_true g2,eq_true g3,eq_true g4,eq_true g5,eq_false g6]
 by_cases g7 : ei s.aE = true
 rotate_left
 ·simp -implicitDefEqProofs [ji,u1,u2,u3,g1,eq_true g2,eq_true g3,eq_true g4,eq_true g5,eq_true g6,g7]
 simp -implicitDefEqProofs [ji,u1,u2,u3,g1,eq_true g2,eq_true g3,eq_true g4,eq_true g5,eq_true g6,g7]
 all_goals (repeat' split) <;> first | rfl | omega | (simp_all; done) | (simp_all; omega) | skip
end M
set_option maxHeartbeats 4000000
namespace M
open Go
theorem As (l : List aL) : (eR l).length≤4 * wL aM l:=by
 unfold eR
 induction l with
 | nil=>simp [wL]
 | cons f l ih =>
  simp only [List.flatMap_cons,List.length_append,wL,List.length_cons,List.map_cons,List.sum_cons,lS,aM,List.length_nil] at *
  omega
theorem RD : (⟨#[58,32]⟩ : ByteArray) = ⟨colon.toArray⟩:=rfl
theorem Cq : (⟨#[13,10]⟩ : ByteArray) = ⟨crlf.toArray⟩:=rfl
theorem RG : (⟨#[13,10,13,10]⟩ : ByteArray) = ⟨cM.toArray⟩:=rfl
theorem GX : (⟨#[72,84,84,80,47,49,46,49,32]⟩ : ByteArray) = ⟨(tL ++ [32]).toArray⟩:=rfl
theorem RE : (⟨#[32,46]⟩ : ByteArray) = ⟨([32,46] : ah).toArray⟩:=rfl
theorem RF : (⟨#[32,46,13,10]⟩ : ByteArray) = ⟨([32,46] ++ crlf : ah).toArray⟩:=rfl
theorem GU : (⟨#[99,111,110,116,101,110,116,45,108,101,110,103,116,104,58,32]⟩ : ByteArray) = ⟨(kS ++ colon).toArray⟩:=rfl
theorem GV : (⟨#[111,98,106,32]⟩ : ByteArray) = ⟨(kT ++ [32]).toArray⟩:=rfl
theorem GW : (⟨#[32]⟩ : ByteArray) = ⟨([32] : ah).toArray⟩:=rfl
theorem x7 : (⟨#[10]⟩ : ByteArray) = ⟨([10] : ah).toArray⟩:=rfl
theorem tq : colon.length = 2:=rfl
theorem tu : crlf.length = 2:=rfl
theorem GY : cM.length = 4:=rfl
theorem Cr : tL.length = 8:=rfl
theorem x8 : kS.length = 14:=rfl
theorem tv : kT.length = 3:=rfl
theorem JA (fs : List aL) (hb : wL aM fs≤1073741824) (g : ah) (hinv : g.length≤4 * (wL aM (fs.take 0))) : aK (ai (ev LI TT) (aj TT) tY) [(0,.row .af 2 (fs.map aI)),(3,.str ⟨(g).toArray⟩),(4,.int .i64 0)] = some (.exit 0,[(0,.row .af 2 (fs.map aI)),(3,.str ⟨((foldI (fun _ g f=>g ++ lS f) 0 (fs) g)).toArray⟩),(4,.int .i64 (fs).length),(8,.bool false)]):=by
 refine kQ (f:=ai (ev LI TT) (aj TT) tY) (fs) (fun i (g : ah)=>[(0,.row .af 2 (fs.map aI)),(3,.str ⟨(g).toArray⟩),(4,.int .i64 i)]) (fun _ g f=>g ++ lS f) (fun g=>[(0,.row .af 2 (fs.map aI)),(3,.str ⟨(g).toArray⟩),(4,.int .i64 (fs).length),(8,.bool false)]) (fun i (g : ah)=>g.length≤4 * (wL aM (fs.take i))) g hinv (fun i b g hi hl hinv=>?_) (fun i b g hi hinv=>?_) (fun g hinv=>?_)
 ·have hw:=aT i (by have:=aY (w:=aM) fs; omega)
  obtain ⟨_,rfl⟩:=List.getElem?_eq_some_iff.1 hi
  have hm:=zz (List.getElem_mem hl)
  have ht:=DY aM fs i
  have q1 : g.length + (fs[i]).name.length≤9223372036854775807:=by omega
  have q2 : g.length + ((fs[i]).name.length + 2)≤9223372036854775807:=by omega
  have q3 : g.length + ((fs[i]).name.length + (2 + (fs[i]).value.length))≤9223372036854775807:=by omega
  simp -implicitDefEqProofs [tY,C0,hl,hw,RD,Cq,gJ,tq,tu,lS]
  exact ⟨by omega,by omega,by omega,by omega,by simp [colon,crlf]⟩
 ·obtain ⟨hl,rfl⟩:=List.getElem?_eq_some_iff.1 hi
  rw [List.take_succ_eq_append_getElem hl]
  simp only [wL,List.length_append,List.map_append,List.sum_append,List.length_cons,List.length_nil,List.map_cons,List.map_nil,List.sum_cons,List.sum_nil,lS,aM] at *
  omega
 ·simp -implicitDefEqProofs [tY,C0]
theorem vQ {β : Type} (f : β→ah) : ∀ (l : List β) (i : Nat) (g : ah),foldI (fun _ g b=>g ++ f b) i l g = g ++ l.flatMap f
 | [],_,g=>by simp [foldI]
 | b :: l,i,g=>by rw [foldI,vQ f l]; simp
theorem LS (fs : List aL) (hb : wL aM fs≤1073741824) : ev LI TT 269 [.row .af 2 (fs.map aI)] = some (.str ⟨(eR fs).toArray⟩,[.dead]):=by
 rw [az (b:=yt) (rs:=[.t 2]) (n:=1) rfl rfl]
 have u1:=JA  fs hb [] (by simp)
 try simp at u1
 rw [vQ,List.nil_append,show fs.flatMap (fun f=>lS f) = eR fs from rfl] at u1
 simp -implicitDefEqProofs [yt,u1]
 all_goals (repeat' split) <;> first | rfl | omega | (simp_all; done) | (simp_all; omega) | skip
structure J4 (r : bY) : Prop where
 s0 : 100≤r.status
 s1 : r.status≤599
 f : lT r.fields = true
 b : r.body.length≤120
 nt : e9 r.status = bn r.status.toNat
 nb : e9 (r.body.length : Int) = bn r.body.length
 ls : (bn r.status.toNat).length≤7
 lb : (bn r.body.length).length≤7
 DS : fk r = tL ++ 32 :: (bn r.status.toNat ++ 32 :: 46 :: (crlf ++ (eR r.fields ++ (kS ++ (colon ++ (bn r.body.length ++ (cM ++ r.body)))))))
theorem CS {r : bY} (h : eH r = true) : J4 r:=by
 obtain ⟨h1,h2,h3⟩:=Tn h
 refine ⟨h1.1,h1.2,h2,h3,?_,?_,kq _ (by omega),kq _ (by omega),?_⟩
 ·unfold e9; rw [if_pos (by omega)]
 ·exact Hh _ (by omega)
 ·unfold fk
  rw [if_pos h,HJ]
  simp [ym,Co,colon]
theorem L1 (r : bY) (hb : bD r≤1073741824) : ev LI TT 200 [.agg (dS .af r)] = some (.str ⟨(fk r).toArray⟩,[.dead]):=by
 rw [az (b:=ug) (rs:=[.t 2]) (n:=1) rfl rfl]
 have hw : bD r = wL aM r.fields + r.body.length:=rfl
 have hfl:=As r.fields
 have hft:=LS r.fields (by omega)
 have u1:=EH  r hb
 try simp at u1
 have u2:=vq  r.status
 try simp at u2
 have u3:=vq  (r.body.length : Int)
 try simp at u3
 by_cases hok : eH r = true
 rotate_left
 ·have e : fk r = []:=(CT r).2 hok
  rw [show eH r = false by simpa using hok] at u1
  simp -implicitDefEqProofs [ug,u1,e]
 rw [hok] at u1
 have A:=CS hok
 rw [A.nt] at u2
 rw [A.nb] at u3
 have a1:=A.ls
 have a2:=A.lb
 have a3:=A.b
 try simp at hft
 rw [A.DS]
 generalize eR r.fields = T at hft hfl
 generalize bn r.status.toNat = D at u2 a1
 generalize bn r.body.length = E at u3 a2
 simp -implicitDefEqProofs [ug,u1,u2,u3,hft,GX,RF,GU,RG,gJ,Cr,tu,x8,tq,GY]
 all_goals (try omega)
theorem K4 (b : ah) (hb : b.length≤1000000) : ev LI TT 309 [.str ⟨b.toArray⟩] = some (.str ⟨(kS ++ (colon ++ (bn b.length ++ crlf))).toArray⟩,[.dead]):=by
 rw [az (b:=xb) (rs:=[.t 2]) (n:=1) rfl rfl]
 have l7:=kq b.length hb
 have u1:=mZ  b.length (by omega)
 try simp at u1
 simp -implicitDefEqProofs [xb,u1,GU,Cq,gJ,x8,tq,tu]
 all_goals (try omega)
theorem KL (r : bY) (hb : bD r≤1073741824) : ev LI TT 270 [.agg (dS .af r)] = some (.str ⟨(fk r).toArray⟩,[.dead]):=by
 rw [az (b:=sj) (rs:=[.t 2]) (n:=1) rfl rfl]
 have hw : bD r = wL aM r.fields + r.body.length:=rfl
 have hfl:=As r.fields
 have l5:=aY (w:=aM) r.fields
 have hft:=KD r.fields (by omega) (by omega)
 have u1:=Er  r hb
 try simp at u1
 by_cases hok : eH r = true
 rotate_left
 ·have e : fk r = []:=(CT r).2 hok
  rw [show eH r = false by simpa using hok] at u1
  simp -implicitDefEqProofs [sj,u1,e]
 rw [hok] at u1
 have A:=CS hok
 have a0:=A.s0
 have WV:=A.s1
 have a1:=A.ls
 have a2:=A.lb
 have a3:=A.b
 have hst : r.status = ((r.status.toNat : Nat) : Int):=by omega
 have u2:=mZ r.status.toNat (by omega)
 rw [← hst] at u2
 have u3:=K4 r.body (by omega)
 try simp at hft
 try simp at u2
 try simp at u3
 rw [A.DS]
 generalize eR r.fields = T at hft hfl
 generalize bn r.status.toNat = D at u2 a1
 generalize bn r.body.length = E at u3 a2
 simp -implicitDefEqProofs [sj,u1,hft,u2,u3,GX,RE,Cq,gJ,Cr,tu,x8,tq]
 refine ⟨by omega,by omega,by omega,by omega,by omega,by omega,by omega,?_⟩
 simp [crlf,cM]
theorem DW (l : List ah) : (j6 l).length≤2 * wL wS l:=by
 unfold j6
 induction l with
 | nil=>simp [wL]
 | cons v l ih =>
  simp only [List.flatMap_cons,List.length_append,wL,List.length_cons,List.map_cons,List.sum_cons,wS,List.length_nil] at *
  omega
theorem CX (r : bY) : (fk r).length≤4 * bD r + 60:=by
 by_cases h : eH r = true
 ·have A:=CS h
  have hfl:=As r.fields
  have a1:=A.ls
  have a2:=A.lb
  rw [A.DS]
  have hw : bD r = wL aM r.fields + r.body.length:=rfl
  simp [Cr,tu,x8,tq,GY]
  omega
 ·rw [(CT r).2 h]
  simp
theorem JG (o : Ob) (hb : aU o≤1073741824) (g : ah) (hinv : g.length≤9223372036 + 2 * (wL wS (o.values.take 0))) : aK (ai (ev LI TT) (aj TT) ue) [(1,.ptr .own (bq .af o)),(3,.str ⟨(g).toArray⟩),(4,.int .i64 0)] = some (.exit 0,[(1,.ptr .own (bq .af o)),(3,.str ⟨((foldI (fun _ g v=>g ++ (v ++ [10])) 0 (o.values) g)).toArray⟩),(4,.int .i64 (o.values).length),(27,.bool false)]):=by
 refine kQ (f:=ai (ev LI TT) (aj TT) ue) (o.values) (fun i (g : ah)=>[(1,.ptr .own (bq .af o)),(3,.str ⟨(g).toArray⟩),(4,.int .i64 i)]) (fun _ g v=>g ++ (v ++ [10])) (fun g=>[(1,.ptr .own (bq .af o)),(3,.str ⟨(g).toArray⟩),(4,.int .i64 (o.values).length),(27,.bool false)]) (fun i (g : ah)=>g.length≤9223372036 + 2 * (wL wS (o.values.take i))) g hinv (fun i b g hi hl hinv=>?_) (fun i b g hi hinv=>?_) (fun g hinv=>?_)
 ·have hw:=aT i (by have hw : aU o = o.path.length + wL wS o.names + wL wS o.values + bD o.resp:=rfl; have:=aY (w:=wS) o.values; omega)
  obtain ⟨_,rfl⟩:=List.getElem?_eq_some_iff.1 hi
  have hw0 : aU o = o.path.length + wL wS o.names + wL wS o.values + bD o.resp:=rfl
  have hm:=qw (List.getElem_mem hl)
  have ht:=DY wS o.values i
  simp -implicitDefEqProofs [ue,C6,hl,hw,x7,gJ]
  all_goals (try omega)
 ·obtain ⟨hl,rfl⟩:=List.getElem?_eq_some_iff.1 hi
  rw [List.take_succ_eq_append_getElem hl]
  simp only [wL,List.length_append,List.map_append,List.sum_append,List.length_cons,List.length_nil,List.map_cons,List.map_nil,List.sum_cons,List.sum_nil,wS] at *
  omega
 ·simp -implicitDefEqProofs [ue,C6]
theorem LZ (o : Ob) (hb : aU o≤1073741824) : ev LI TT 107 [.agg (bq .af o)] = some (.str ⟨(cR o).toArray⟩,[.dead]):=by
 rw [az (b:=uf) (rs:=[.t 2]) (n:=1) rfl rfl]
 have hw : aU o = o.path.length + wL wS o.names + wL wS o.values + bD o.resp:=rfl
 have hrl:=CX o.resp
 have hvl:=DW o.values
 have hft:=L1 o.resp (by omega)
 have u1:=vr  o (by omega)
 try simp at u1
 have u2:=vq  o.t
 try simp at u2
 have u3:=vq  (o.values.length : Int)
 try simp at u3
 by_cases hok : dh o = true
 rotate_left
 ·have e : cR o = []:=(CF o).2 hok
  rw [show dh o = false by simpa using hok] at u1
  simp -implicitDefEqProofs [uf,u1,e]
 rw [hok] at u1
 have A:=CE hok
 have a1:=A.len
 have a2:=A.n4
 have a3:=CD o.t
 have a4:=kq o.values.length (by omega)
 rw [Hh o.values.length (by omega)] at u3
 have et : cR o = kT ++ 32 :: (o.path ++ 32 :: (e9 o.t ++ 32 :: (bn o.values.length ++ 10 :: (j6 o.values ++ fk o.resp)))):=by
  unfold cR pW tM fk
  rw [if_pos hok,if_pos A.resp]
  simp
 have je:=JG o hb (kT ++ 32 :: (o.path ++ 32 :: (e9 o.t ++ 32 :: (bn o.values.length ++ [10])))) (by simp [tv]; omega)
 rw [vQ,show o.values.flatMap (fun v=>v ++ [10]) = j6 o.values from rfl] at je
 try simp at je
 try simp at hft
 rw [et]
 generalize fk o.resp = R at hft hrl
 generalize bn o.values.length = E at u3 a4 je
 generalize j6 o.values = V at hvl je
 simp -implicitDefEqProofs [uf,u1,u2,u3,hft,je,GV,GW,x7,gJ,tv]
 all_goals (try omega)
theorem IY (o : Ob) (hb : aU o≤1073741824) (g : ah) (hinv : g.length≤9223372036 + 2 * (wL wS (o.values.take 0))) : aK (ai (ev LI TT) (aj TT) sg) [(1,.ptr .own (bq .af o)),(3,.str ⟨(g).toArray⟩),(24,.ax 1 [] 0 2),(25,.row .af 1 (o.values.map eS)),(26,.int .i64 o.values.length),(27,.int .i64 0)] = some (.exit 0,[(1,.ptr .own (bq .af o)),(3,.str ⟨((foldI (fun _ g v=>g ++ (v ++ [10])) 0 (o.values) g)).toArray⟩),(24,.ax 1 [] 0 2),(25,.row .af 1 (o.values.map eS)),(26,.int .i64 o.values.length),(27,.int .i64 (o.values).length),(28,.bool false)]):=by
 refine kQ (f:=ai (ev LI TT) (aj TT) sg) (o.values) (fun i (g : ah)=>[(1,.ptr .own (bq .af o)),(3,.str ⟨(g).toArray⟩),(24,.ax 1 [] 0 2),(25,.row .af 1 (o.values.map eS)),(26,.int .i64 o.values.length),(27,.int .i64 i)]) (fun _ g v=>g ++ (v ++ [10])) (fun g=>[(1,.ptr .own (bq .af o)),(3,.str ⟨(g).toArray⟩),(24,.ax 1 [] 0 2),(25,.row .af 1 (o.values.map eS)),(26,.int .i64 o.values.length),(27,.int .i64 (o.values).length),(28,.bool false)]) (fun i (g : ah)=>g.length≤9223372036 + 2 * (wL wS (o.values.take i))) g hinv (fun i b g hi hl hinv=>?_) (fun i b g hi hinv=>?_) (fun g hinv=>?_)
 ·have hw:=aT i (by have hw : aU o = o.path.length + wL wS o.names + wL wS o.values + bD o.resp:=rfl; have:=aY (w:=wS) o.values; omega)
  obtain ⟨_,rfl⟩:=List.getElem?_eq_some_iff.1 hi
  have hw0 : aU o = o.path.length + wL wS o.names + wL wS o.values + bD o.resp:=rfl
  have hm:=qw (List.getElem_mem hl)
  have ht:=DY wS o.values i
  simp -implicitDefEqProofs [sg,Bk,hl,hw,x7,gJ]
  all_goals (try omega)
 ·obtain ⟨hl,rfl⟩:=List.getElem?_eq_some_iff.1 hi
  rw [List.take_succ_eq_append_getElem hl]
  simp only [wL,List.length_append,List.map_append,List.sum_append,List.length_cons,List.length_nil,List.map_cons,List.map_nil,List.sum_cons,List.sum_nil,wS] at *
  omega
 ·simp -implicitDefEqProofs [sg,Bk]
theorem KJ (o : Ob) (hb : aU o≤1073741824) : ev LI TT 204 [.agg (bq .af o)] = some (.str ⟨(cR o).toArray⟩,[.dead]):=by
 rw [az (b:=si) (rs:=[.t 2]) (n:=1) rfl rfl]
 have hw : aU o = o.path.length + wL wS o.names + wL wS o.values + bD o.resp:=rfl
 have hrl:=CX o.resp
 have hvl:=DW o.values
 have YU:=aY (w:=wS) o.values
 have hft:=KL o.resp (by omega)
 have u1:=vp  o (by omega)
 try simp at u1
 have u2:=KI  o.t
 try simp at u2
 have u3:=mZ  o.values.length (by omega)
 try simp at u3
 by_cases hok : dh o = true
 rotate_left
 ·have e : cR o = []:=(CF o).2 hok
  rw [show dh o = false by simpa using hok] at u1
  simp -implicitDefEqProofs [si,u1,e]
 rw [hok] at u1
 have A:=CE hok
 have a1:=A.len
 have a2:=A.n4
 have a3:=CD o.t
 have a4:=kq o.values.length (by omega)
 have et : cR o = kT ++ 32 :: (o.path ++ 32 :: (e9 o.t ++ 32 :: (bn o.values.length ++ 10 :: (j6 o.values ++ fk o.resp)))):=by
  unfold cR pW tM fk
  rw [if_pos hok,if_pos A.resp]
  simp
 have je:=IY o hb (kT ++ 32 :: (o.path ++ 32 :: (e9 o.t ++ 32 :: (bn o.values.length ++ [10])))) (by simp [tv]; omega)
 rw [vQ,show o.values.flatMap (fun v=>v ++ [10]) = j6 o.values from rfl] at je
 try simp at je
 try simp at hft
 rw [et]
 generalize fk o.resp = R at hft hrl
 generalize bn o.values.length = E at u3 a4 je
 generalize j6 o.values = V at hvl je
 simp -implicitDefEqProofs [si,u1,u2,u3,hft,je,GV,GW,x7,gJ,tv]
 all_goals (try omega)
end M
set_option maxHeartbeats 4000000
namespace M
open Go
theorem F3 (fs : List aL) (n v : ah) : (decide (cQ fs n = some v)) = ((cQ fs n).isSome && decide ((cQ fs n).getD [] = v)):=by
 cases cQ fs n <;> simp
theorem S4 (p s : ah) : p.isPrefixOf s = (decide (p.length≤s.length) && decide (s.take p.length = p)):=by
 have:=Lib.hasPrefix_of_take s p
 unfold Lib.hasPrefix at this
 rw [← this]
 congr 1
 rw [Bool.eq_iff_iff]
 simp
theorem LV (b : Bn) (o : Ob) (h1 : aP b≤1073741824) (h2 : aU o≤1073741824) : ev LI TT 139 [.agg (aQ b),.agg (bq .af o)] = some (.bool (iH b o),[.dead,.dead]):=by
 rw [az (b:=ju) (rs:=[.t 4]) (n:=2) rfl rfl]
 have hw : aP b = b.a.length + b.b.length:=rfl
 have jJ : aU o = o.path.length + wL wS o.names + wL wS o.values + bD o.resp:=rfl
 have Q4 : bD o.resp = wL aM o.resp.fields + o.resp.body.length:=rfl
 have l1:=aY (w:=aM) o.resp.fields
 unfold iH
 rw [F3,S4]
 have u1:=EE  b h1
 try simp at u1
 have u2:=vr  o (by omega)
 try simp at u2
 have u3:=EG  o.resp.fields b.a (by omega)
 try simp at u3
 generalize gq b = b1 at u1
 cases b1
 ·simp -implicitDefEqProofs [ju,u1]
 generalize dh o = b2 at u2
 cases b2
 ·simp -implicitDefEqProofs [ju,u1,u2]
 by_cases g1 : o.t≤b.t
 rotate_left
 ·have fV : b.t < o.t:=by omega
  simp -implicitDefEqProofs [ju,u1,u2,g1,fV]
 have fV : ¬ b.t < o.t:=by omega
 by_cases g2 : b.kind = 1
 ·rw [g2] at u1
  simp -implicitDefEqProofs [ju,u1,u2,g1,fV,g2]
 by_cases g3 : b.kind = 2
 ·rw [g3] at u1
  by_cases g4 : b.a.length≤o.path.length
  ·have vU : (b.a.length : Int)≤o.path.length:=by omega
   by_cases g5 : o.path.take b.a.length = b.a
   ·simp -implicitDefEqProofs [ju,u1,u2,g1,fV,g2,g3,g4,vU,Lib.extract_mk,eq_true g5]
   ·simp -implicitDefEqProofs [ju,u1,u2,g1,fV,g2,g3,g4,vU,Lib.extract_mk,eq_false g5]
  ·have vU : ¬ (b.a.length : Int)≤o.path.length:=by omega
   simp -implicitDefEqProofs [ju,u1,u2,g1,fV,g2,g3,g4,vU]
 generalize (cQ o.resp.fields b.a).isSome = b3 at u3
 cases b3
 all_goals
 simp -implicitDefEqProofs [ju,u1,u2,u3,g1,fV,g2,g3]
 all_goals (repeat' split) <;> first | rfl | omega | (simp_all; done) | (simp_all; omega) | skip
theorem KE (b : Bn) (o : Ob) (h1 : aP b≤1073741824) (h2 : aU o≤1073741824) : ev LI TT 145 [.agg (aQ b),.agg (bq .af o)] = some (.bool (iH b o),[.dead,.dead]):=by
 rw [az (b:=kL) (rs:=[.t 4]) (n:=2) rfl rfl]
 have hw : aP b = b.a.length + b.b.length:=rfl
 have jJ : aU o = o.path.length + wL wS o.names + wL wS o.values + bD o.resp:=rfl
 have Q4 : bD o.resp = wL aM o.resp.fields + o.resp.body.length:=rfl
 have l1:=aY (w:=aM) o.resp.fields
 unfold iH
 rw [F3,show b.a.isPrefixOf o.path = Lib.hasPrefix o.path b.a from rfl]
 have u1:=Eo  b h1
 try simp at u1
 have u2:=vp  o (by omega)
 try simp at u2
 have u3:=Ep  o.resp.fields b.a (by omega)
 try simp at u3
 have u4:=Mm  o.path b.a
 try simp at u4
 by_cases g1 : o.t≤b.t
 rotate_left
 ·have fV : b.t < o.t:=by omega
  simp -implicitDefEqProofs [kL,u1,u2,g1,fV]
 have fV : ¬ b.t < o.t:=by omega
 generalize gq b = b1 at u1
 cases b1
 ·simp -implicitDefEqProofs [kL,u1,g1,fV]
 generalize dh o = b2 at u2
 cases b2
 ·simp -implicitDefEqProofs [kL,u1,u2,g1,fV]
 by_cases g2 : b.kind = 1
 ·rw [g2] at u1
  simp -implicitDefEqProofs [kL,u1,u2,g1,fV,g2]
 by_cases g3 : b.kind = 2
 ·rw [g3] at u1
  simp -implicitDefEqProofs [kL,u1,u2,u4,g1,fV,g2,g3]
 generalize (cQ o.resp.fields b.a).isSome = b3 at u3
 cases b3
 all_goals
 simp -implicitDefEqProofs [kL,u1,u2,u3,u4,g1,fV,g2,g3]
 all_goals (repeat' split) <;> first | rfl | omega | (simp_all; done) | (simp_all; omega) | skip
theorem Gl (l : List Bn) (o : Ob) : aZ (fun b=>!iH b o) l = !kF l o:=by
 unfold kF aZ
 induction l with
 | nil=>rfl
 | cons b l ih=>simp only [List.all_cons,List.any_cons,ih,Bool.not_or]
theorem JB (l : List Bn) (o : Ob) (h1 : wL aP l≤1073741824) (h2 : aU o≤1073741824) : aK (ai (ev LI TT) (aj TT) ua) [(0,.row .af 4 (l.map aQ)),(3,.ptr .own (bq .af o)),(5,.int .i64 0)] = if aZ (fun b=>!iH b o) (l) = true then some (.exit 0,[(0,.row .af 4 (l.map aQ)),(3,.ptr .own (bq .af o)),(5,.int .i64 (l).length),(9,.bool false)]) else some (.ret,[(4,.bool true)]):=by
 refine cO (f:=ai (ev LI TT) (aj TT) ua) (l) (fun i=>[(0,.row .af 4 (l.map aQ)),(3,.ptr .own (bq .af o)),(5,.int .i64 i)]) (fun b=>!iH b o) _ _ (fun i b hi hl=>?_) ?_
 ·have hw:=aT i (by have:=aY (w:=aP) l; omega)
  obtain ⟨_,rfl⟩:=List.getElem?_eq_some_iff.1 hi
  have hm:=zy (List.getElem_mem hl)
  have u1:=LV l[i] o (by omega) h2
  try simp at u1
  cases hh : iH l[i] o <;> rw [hh] at u1
  all_goals
  simp -implicitDefEqProofs [ua,C3,hl,hw,u1,hh]
  all_goals (repeat' split) <;> first | rfl | omega | (simp_all; done) | (simp_all; omega) | skip
 ·simp -implicitDefEqProofs [ua,C3]
theorem LW (l : List Bn) (o : Ob) (h1 : wL aP l≤1073741824) (h2 : aU o≤1073741824) : ev LI TT 56 [.row .af 4 (l.map aQ),.agg (bq .af o)] = some (.bool (kF l o),[.dead,.dead]):=by
 rw [az (b:=yw) (rs:=[.t 4]) (n:=2) rfl rfl]
 have u1:=JB  l o h1 h2
 try simp at u1
 rw [Gl] at u1
 cases hh : kF l o <;> rw [hh] at u1
 all_goals try simp at u1
 all_goals
 simp -implicitDefEqProofs [yw,u1]
 all_goals (repeat' split) <;> first | rfl | omega | (simp_all; done) | (simp_all; omega) | skip
theorem IV (l : List Bn) (o : Ob) (h1 : wL aP l≤1073741824) (h2 : aU o≤1073741824) : aK (ai (ev LI TT) (aj TT) rY) [(0,.row .af 4 (l.map aQ)),(3,.ptr .own (bq .af o)),(7,.row .af 4 (l.map aQ)),(8,.int .i64 l.length),(9,.int .i64 0)] = if aZ (fun b=>!iH b o) (l) = true then some (.exit 0,[(0,.row .af 4 (l.map aQ)),(3,.ptr .own (bq .af o)),(7,.row .af 4 (l.map aQ)),(8,.int .i64 l.length),(9,.int .i64 (l).length),(10,.bool false)]) else some (.ret,[(4,.bool true)]):=by
 refine cO (f:=ai (ev LI TT) (aj TT) rY) (l) (fun i=>[(0,.row .af 4 (l.map aQ)),(3,.ptr .own (bq .af o)),(7,.row .af 4 (l.map aQ)),(8,.int .i64 l.length),(9,.int .i64 i)]) (fun b=>!iH b o) _ _ (fun i b hi hl=>?_) ?_
 ·have hw:=aT i (by have:=aY (w:=aP) l; omega)
  obtain ⟨_,rfl⟩:=List.getElem?_eq_some_iff.1 hi
  have hm:=zy (List.getElem_mem hl)
  have u1:=KE l[i] o (by omega) h2
  try simp at u1
  cases hh : iH l[i] o <;> rw [hh] at u1
  all_goals
  simp -implicitDefEqProofs [rY,Bi,hl,hw,u1,hh]
  all_goals (repeat' split) <;> first | rfl | omega | (simp_all; done) | (simp_all; omega) | skip
 ·simp -implicitDefEqProofs [rY,Bi]
theorem KF (l : List Bn) (o : Ob) (h1 : wL aP l≤1073741824) (h2 : aU o≤1073741824) : ev LI TT 61 [.row .af 4 (l.map aQ),.agg (bq .af o)] = some (.bool (kF l o),[.dead,.dead]):=by
 rw [az (b:=wH) (rs:=[.t 4]) (n:=2) rfl rfl]
 have u1:=IV  l o h1 h2
 try simp at u1
 rw [Gl] at u1
 cases hh : kF l o <;> rw [hh] at u1
 all_goals try simp at u1
 all_goals
 simp -implicitDefEqProofs [wH,u1]
 all_goals (repeat' split) <;> first | rfl | omega | (simp_all; done) | (simp_all; omega) | skip
end M
namespace M
open Go
end M
set_option maxHeartbeats 4000000
namespace M
open Go
theorem Aa (o : Ob) (hb : aU o≤1073741824) : ev LI TT 91 [.agg (bq .af o)] = some (.agg (bq .own o),[.dead]):=by
 rw [az (b:=yG) (rs:=[.c 2 7 true 61]) (n:=1) rfl rfl]
 have hw : aU o = o.path.length + wL wS o.names + wL wS o.values + bD o.resp:=rfl
 have jJ : bD o.resp = wL aM o.resp.fields + o.resp.body.length:=rfl
 have l1:=aY (w:=aM) o.resp.fields
 have l2:=aY (w:=wS) o.names
 have l3:=aY (w:=wS) o.values
 have u1:=Me  o.resp (by omega)
 try simp at u1
 simp -implicitDefEqProofs [yG,u1,za,rowAt,(by omega : o.names.length * 16≤140737488355328),(by omega : o.values.length * 16≤140737488355328)]
 all_goals (repeat' split) <;> first | rfl | omega | (simp_all; done) | (simp_all; omega) | skip
theorem Eu (o : Ob) (hb : aU o≤1073741824) : ev LI TT 183 [.agg (bq .af o)] = some (.agg (bq .own o),[.dead]):=by
 rw [az (b:=wX) (rs:=[.c 2 7 true 61]) (n:=1) rfl rfl]
 have hw : aU o = o.path.length + wL wS o.names + wL wS o.values + bD o.resp:=rfl
 have jJ : bD o.resp = wL aM o.resp.fields + o.resp.body.length:=rfl
 have l1:=aY (w:=aM) o.resp.fields
 have l2:=aY (w:=wS) o.names
 have l3:=aY (w:=wS) o.values
 have u1:=KY  o.resp (by omega)
 try simp at u1
 have u2:=BG o.names (by omega)
 try simp at u2
 have u3:=BG o.values (by omega)
 try simp at u3
 simp -implicitDefEqProofs [wX,u1,u2,u3]
 all_goals (repeat' split) <;> first | rfl | omega | (simp_all; done) | (simp_all; omega) | skip
end M
set_option maxHeartbeats 4000000
namespace M
open Go
structure Cc where
 ns : Bool
 nc : Bool
 pr : Bool
 mu : Bool
 ha : Bool
 Kb : Int
@[simp] def X9 (c : Cc) : List X:=[.bool c.ns,.bool c.nc,.bool c.pr,.bool c.mu,.bool c.ha,.int .i64 c.Kb]
end M
set_option maxHeartbeats 4000000
namespace M
open Go
end M
set_option maxHeartbeats 4000000
namespace M
open Go
end M
set_option maxHeartbeats 4000000
namespace M
open Go
end M
set_option maxHeartbeats 4000000
namespace M
open Go
theorem EI (d : cg) (h1 : d.cells.length≤1073741824) (h2 : d.pending.length≤1073741824) : ev LI TT 126 [.agg (cu .af d)] = some (.agg (cu .own d),[.dead]):=by
 rw [az (b:=yH) (rs:=[.c 2 2 true 39]) (n:=1) rfl rfl]
 simp -implicitDefEqProofs [yH,za,HP,rowAt,(by omega : d.cells.length * 16≤140737488355328),(by omega : d.pending.length * 24≤140737488355328),yI,Dg,yJ,Dh,Di,Dj]
 all_goals (repeat' split) <;> first | rfl | omega | (simp_all; done) | (simp_all; omega) | skip
theorem KW (d : cg) (h1 : d.cells.length≤1073741824) (h2 : d.pending.length≤1073741824) : ev LI TT 131 [.agg (cu .af d)] = some (.agg (cu .own d),[.dead]):=by
 rw [az (b:=wV) (rs:=[.c 2 2 true 39]) (n:=1) rfl rfl]
 have u1:=BG d.cells h1
 try simp at u1
 have u2:=Rv d.pending h2
 try simp at u2
 simp -implicitDefEqProofs [wV,u1,u2]
 all_goals (repeat' split) <;> first | rfl | omega | (simp_all; done) | (simp_all; omega) | skip
def zJ (ws : List Wr) : Prop:=∀ w∈ws,0≤w.at_∧w.at_≤19
theorem nY {d : cg} (h : ei d = true) : zJ d.pending∧d.cells.length = 20∧d.pending.length≤16:=by
 simp only [ei,Bool.and_eq_true,decide_eq_true_eq] at h
 refine ⟨fun w hw=>?_,by omega,by omega⟩
 simpa [mF] using vk.1 h.1.1 w hw
def fC (d : cg) : cg:=⟨nU (gX [] true) d.cells d.pending,[]⟩
theorem JR (d : cg) (keep : List Bool) (all : Bool) (hb : d.pending.length≤9223372036854775807) (ho : zJ d.pending) (hk : keep.length≤9223372036854775807) (cs : List ah) (hinv : cs.length = 20) : aK (ai (ev LI TT) (aj TT) od) [(1,.row .af 1 (keep.map eB)),(2,.bool all),(3,.ptr .own (cu .af d)),(6,.ptr .own [.row .own 1 [],.row .own 2 []]),(7,.ptr .own [.row .own 1 ((cs).map eS),.row .own 2 []]),(8,.int .i64 0)] = some (.exit 0,[(1,.row .af 1 (keep.map eB)),(2,.bool all),(3,.ptr .own (cu .af d)),(6,.ptr .own [.row .own 1 [],.row .own 2 []]),(7,.ptr .own [.row .own 1 (((foldI (fK (gX keep all)) 0 (d.pending) cs)).map eS),.row .own 2 []]),(8,.int .i64 (d.pending).length),(18,.bool false)]):=by
 refine kQ (f:=ai (ev LI TT) (aj TT) od) (d.pending) (fun i (cs : List ah)=>[(1,.row .af 1 (keep.map eB)),(2,.bool all),(3,.ptr .own (cu .af d)),(6,.ptr .own [.row .own 1 [],.row .own 2 []]),(7,.ptr .own [.row .own 1 ((cs).map eS),.row .own 2 []]),(8,.int .i64 i)]) (fK (gX keep all)) (fun cs=>[(1,.row .af 1 (keep.map eB)),(2,.bool all),(3,.ptr .own (cu .af d)),(6,.ptr .own [.row .own 1 [],.row .own 2 []]),(7,.ptr .own [.row .own 1 ((cs).map eS),.row .own 2 []]),(8,.int .i64 (d.pending).length),(18,.bool false)]) (fun i (cs : List ah)=>cs.length = 20) cs hinv (fun i b cs hi hl hinv=>?_) (fun i b cs hi hinv=>?_) (fun cs hinv=>?_)
 ·have hw:=aT i (by first | omega | (simp at hl; omega))
  obtain ⟨_,rfl⟩:=List.getElem?_eq_some_iff.1 hi
  have h1:=ho _ (List.getElem_mem hl)
  have h2 : (d.pending[i]).at_.toNat < cs.length:=by omega
  cases all
  ·by_cases h4 : i < keep.length
   ·cases h5 : keep[i] <;> simp -implicitDefEqProofs [od,uv,hl,hw,h1,h2,fK,gX,h4,h5]
   ·simp -implicitDefEqProofs [od,uv,hl,hw,h1,h2,fK,gX,h4]
  simp -implicitDefEqProofs [od,uv,hl,hw,h1,h2,fK,gX]
 ·rw [Cn]; exact hinv
 ·simp -implicitDefEqProofs [od,uv]
theorem L6 (d : cg) (keep : List Bool) (all : Bool) (h : ei d = true) (hk : keep.length≤9223372036854775807) : ev LI TT 190 [.agg (cu .af d),.row .af 1 (keep.map eB),.bool all] = some (.agg (cu .own (⟨nU (gX keep all) d.cells d.pending,[]⟩)),[.dead,.dead,.dead]):=by
 rw [az (b:=yK) (rs:=[.c 6 2 true 39]) (n:=3) rfl rfl]
 obtain ⟨h0,h1,h1'⟩:=nY h
 have h2:=JR d keep all (by omega) h0 hk d.cells h1
 try simp at h2
 simp -implicitDefEqProofs [yK,h1,h2,nU,za,rowAt]
 all_goals (repeat' split) <;> first | rfl | omega | (simp_all; done) | (simp_all; omega) | skip
theorem LU (d : cg) (h : ei d = true) : ev LI TT 99 [.agg (cu .af d)] = some (.agg (cu .own (fC d)),[.dead]):=by
 rw [az (b:=yu) (rs:=[.c 2 2 true 39]) (n:=1) rfl rfl]
 obtain ⟨h0,h1,h1'⟩:=nY h
 have h2:=zZ d (by omega)
 have h3:=L6 d [] true h (by simp)
 rw [h] at h2
 try simp at h2
 try simp at h3
 simp -implicitDefEqProofs [yu,h2,h3,fC]
 all_goals (repeat' split) <;> first | rfl | omega | (simp_all; done) | (simp_all; omega) | skip
theorem IQ (ws : List Wr) (hb : ws.length≤9223372036854775807) (ho : zJ ws) (cs : List ah) (hinv : cs.length = 20) : aK (ai (ev LI TT) (aj TT) rW) [(0,.ax 100000 [] 0 0),(4,.ax 100000 [] 0 0),(5,.ax 100000 [] 0 0),(6,.ax 100000 [] 0 1),(7,.ref 100000 [(0,1)]),(8,.int .i64 ws.length),(9,.int .i64 0),(100000,.ptr .own [.row .own 1 ((cs).map eS),.row .own 2 (ws.map eW)])] = some (.exit 0,[(0,.ax 100000 [] 0 0),(4,.ax 100000 [] 0 0),(5,.ax 100000 [] 0 0),(6,.ax 100000 [] 0 1),(7,.ref 100000 [(0,1)]),(8,.int .i64 ws.length),(9,.int .i64 (ws).length),(10,.bool false),(100000,.ptr .own [.row .own 1 (((foldI (fK (gX [] true)) 0 (ws) cs)).map eS),.row .own 2 (ws.map eW)])]):=by
 refine kQ (f:=ai (ev LI TT) (aj TT) rW) (ws) (fun i (cs : List ah)=>[(0,.ax 100000 [] 0 0),(4,.ax 100000 [] 0 0),(5,.ax 100000 [] 0 0),(6,.ax 100000 [] 0 1),(7,.ref 100000 [(0,1)]),(8,.int .i64 ws.length),(9,.int .i64 i),(100000,.ptr .own [.row .own 1 ((cs).map eS),.row .own 2 (ws.map eW)])]) (fK (gX [] true)) (fun cs=>[(0,.ax 100000 [] 0 0),(4,.ax 100000 [] 0 0),(5,.ax 100000 [] 0 0),(6,.ax 100000 [] 0 1),(7,.ref 100000 [(0,1)]),(8,.int .i64 ws.length),(9,.int .i64 (ws).length),(10,.bool false),(100000,.ptr .own [.row .own 1 ((cs).map eS),.row .own 2 (ws.map eW)])]) (fun i (cs : List ah)=>cs.length = 20) cs hinv (fun i b cs hi hl hinv=>?_) (fun i b cs hi hinv=>?_) (fun cs hinv=>?_)
 ·have hw:=aT i (by first | omega | (simp at hl; omega))
  obtain ⟨_,rfl⟩:=List.getElem?_eq_some_iff.1 hi
  have h1:=ho _ (List.getElem_mem hl)
  have h2 : (ws[i]).at_.toNat < cs.length:=by omega
  simp -implicitDefEqProofs [rW,Bh,hl,hw,h1,h2,fK,gX]
 ·rw [Cn]; exact hinv
 ·simp -implicitDefEqProofs [rW,Bh]
theorem KB (d : cg) (h : ei d = true) : ev LI TT 196 [.ptr .own (cu .own d)] = some (.au [],[.ptr .own (cu .own (fC d))]):=by
 rw [az (b:=wF) (rs:=[]) (n:=1) rfl rfl]
 obtain ⟨h0,h1,h1'⟩:=nY h
 have h2:=IQ d.pending (by omega) h0 d.cells h1
 try simp at h2
 simp -implicitDefEqProofs [wF,h1,h2,nU,fC]
 all_goals (repeat' split) <;> first | rfl | omega | (simp_all; done) | (simp_all; omega) | skip
theorem EF (d : cg) (at_ : Int) (t : ah) (h : ei d = true) (ha : 0≤at_∧at_≤19) (hp : d.pending.length < 16) : ev LI TT 186 [.agg (cu .af d),.int .i64 at_,.str ⟨t.toArray⟩] = some (.au [.agg (cu .own (⟨d.cells,d.pending ++ [⟨at_,t⟩]⟩)),.bool true],[.dead,.dead,.dead]):=by
 rw [az (b:=yp) (rs:=[.c 6 2 true 39,.t 7]) (n:=3) rfl rfl]
 obtain ⟨h0,h1,h1'⟩:=nY h
 have h2:=zZ d (by omega)
 have h3:=EI d (by omega) (by omega)
 rw [h] at h2
 try simp at h2
 try simp at h3
 have h4 : ¬ (d.pending.length : Int) = 16:=by omega
 have h5 : (d.pending.length + 1) * 24≤140737488355328:=by omega
 simp -implicitDefEqProofs [yp,h2,h3,h4,h5,ha,dN,rowAt]
 all_goals (repeat' split) <;> first | rfl | omega | (simp_all; done) | (simp_all; omega) | skip
def nZ (d : cg) (a : Int) (t : ah) : cg:=if 16≤(d.pending.length : Int) then ⟨(fC d).cells,[⟨a,t⟩]⟩ else ⟨d.cells,d.pending ++ [⟨a,t⟩]⟩
def p7 (s : Sh) (a : Int) (t : ah) : Sh:=⟨nZ s.aE a t,s.ay,s.aJ,s.next,s.seq⟩
theorem Nd {d : cg} (h : ei d = true) : ei (fC d) = true:=by
 obtain ⟨h0,h1,h1'⟩:=nY h
 have:=RA (gX [] true) d.cells d.pending
 unfold ei fC
 simp only [this,h1]
 rfl
theorem L9 (s : Sh) (at_ : Int) (t : ah) (h : ei s.aE = true) (ha : 0≤at_∧at_≤19) : ev LI TT 96 [.agg (bk .own s),.int .i64 at_,.str ⟨t.toArray⟩] = some (.agg (bk .own (p7 s at_ t)),[.dead,.dead,.dead]):=by
 rw [az (b:=uE) (rs:=[.c 6 6 true 43]) (n:=3) rfl rfl]
 obtain ⟨h0,h1,h1'⟩:=nY h
 have h2:=LU s.aE h
 try simp at h2
 unfold p7 nZ
 by_cases g : (s.aE.pending.length : Int) = 16
 ·have h3:=EF (fC s.aE) at_ t (Nd h) ha (by simp [fC])
  try simp [fC] at h3
  have g2 : (16 : Int)≤s.aE.pending.length:=by omega
  simp -implicitDefEqProofs [uE,h2,h3,g,fC]
 have h3:=EF s.aE at_ t h ha (by omega)
 try simp at h3
 have g2 : ¬ (16 : Int)≤s.aE.pending.length:=by omega
 simp -implicitDefEqProofs [uE,h3,g,g2]
 all_goals (repeat' split) <;> first | rfl | omega | (simp_all; done) | (simp_all; omega) | skip
theorem KR (s : Sh) (at_ : Int) (t : ah) (h : ei s.aE = true) : ev LI TT 193 [.ptr .own (bk .own s),.int .i64 at_,.str ⟨t.toArray⟩] = some (.au [],[.ptr .own (bk .own (p7 s at_ t)),.dead,.dead]):=by
 rw [az (b:=so) (rs:=[]) (n:=3) rfl rfl]
 obtain ⟨h0,h1,h1'⟩:=nY h
 have h2:=KB s.aE h
 try simp at h2
 have h5 : (s.aE.pending.length + 1) * 24≤140737488355328:=by omega
 unfold p7 nZ
 by_cases g2 : (16 : Int)≤s.aE.pending.length
 ·simp -implicitDefEqProofs [so,h2,g2,dN,fC]
 simp -implicitDefEqProofs [so,h5,g2,dN]
 all_goals (repeat' split) <;> first | rfl | omega | (simp_all; done) | (simp_all; omega) | skip
def tJ (a : Int) : Int:=if a = 19 then 5 else a + 1
theorem L7 (a : Int) (h : 5≤a∧a≤19) : ev LI TT 110 [.int .i64 a] = some (.int .i64 (tJ a),[.dead]):=by
 rw [az (b:=yM) (rs:=[.t 2]) (n:=1) rfl rfl]
 unfold tJ
 have hw : IntKind.i64.wrap (a + 1) = a + 1:=aN (by omega) (by omega)
 simp -implicitDefEqProofs [yM,hw]
 all_goals (repeat' split) <;> first | rfl | omega | (simp_all; done) | (simp_all; omega) | skip
theorem KV (a : Int) (h : 5≤a∧a≤19) : ev LI TT 208 [.int .i64 a] = some (.int .i64 (tJ a),[.dead]):=by
 rw [az (b:=sA) (rs:=[.t 2]) (n:=1) rfl rfl]
 unfold tJ
 have hw : IntKind.i64.wrap (a + 1) = a + 1:=aN (by omega) (by omega)
 by_cases g : a = 19
 ·subst g
  have P4 : IntKind.i64.wrap 20 = 20:=aN (by omega) (by omega)
  simp -implicitDefEqProofs [sA,P4]
 have g2 : ¬ a + 1 = 20:=by omega
 simp -implicitDefEqProofs [sA,hw,g,g2]
 all_goals (repeat' split) <;> first | rfl | omega | (simp_all; done) | (simp_all; omega) | skip
def gK (a b : Ob) : Bool:=decide (a.path = b.path) && decide (a.names = b.names) && decide (a.values = b.values)
theorem Ma (a : Ob) (b : Ob) (ha : aU a≤1073741824) (hb : aU b≤1073741824) : ev LI TT 109 [.agg (bq .af a),.agg (bq .af b)] = some (.bool (gK a b),[.dead,.dead]):=by
 rw [az (b:=qi) (rs:=[.t 4]) (n:=2) rfl rfl]
 have hw : aU a = a.path.length + wL wS a.names + wL wS a.values + bD a.resp:=rfl
 have jJ : aU b = b.path.length + wL wS b.names + wL wS b.values + bD b.resp:=rfl
 have l1:=aY (w:=wS) a.names
 have l2:=aY (w:=wS) a.values
 have l3:=aY (w:=wS) b.names
 have l4:=aY (w:=wS) b.values
 unfold gK
 have u1:=Ac  a.names b.names (by omega) (by omega)
 try simp at u1
 have u2:=Ac  a.values b.values (by omega) (by omega)
 try simp at u2
 by_cases g : a.path = b.path
 rotate_left
 ·simp -implicitDefEqProofs [qi,eq_false g]
 by_cases g2 : a.names = b.names
 rotate_left
 ·rw [decide_eq_false g2] at u1; simp -implicitDefEqProofs [qi,eq_true g,u1,eq_false g2]
 rw [decide_eq_true g2] at u1
 simp -implicitDefEqProofs [qi,u1,u2,eq_true g,eq_true g2]
 all_goals (repeat' split) <;> first | rfl | omega | (simp_all; done) | (simp_all; omega) | skip
theorem K3 (a : Ob) (b : Ob) (ha : aU a≤1073741824) (hb : aU b≤1073741824) : ev LI TT 207 [.agg (bq .af a),.agg (bq .af b)] = some (.bool (gK a b),[.dead,.dead]):=by
 rw [az (b:=oZ) (rs:=[.t 4]) (n:=2) rfl rfl]
 have hw : aU a = a.path.length + wL wS a.names + wL wS a.values + bD a.resp:=rfl
 have jJ : aU b = b.path.length + wL wS b.names + wL wS b.values + bD b.resp:=rfl
 have l1:=aY (w:=wS) a.names
 have l2:=aY (w:=wS) a.values
 unfold gK
 have u1:=Ae  a.names b.names (by omega)
 try simp at u1
 have u2:=Ae  a.values b.values (by omega)
 try simp at u2
 by_cases g : a.path = b.path
 rotate_left
 ·simp -implicitDefEqProofs [oZ,eq_false g]
 by_cases g2 : a.names = b.names
 rotate_left
 ·rw [decide_eq_false g2] at u1; simp -implicitDefEqProofs [oZ,eq_true g,u1,eq_false g2]
 rw [decide_eq_true g2] at u1
 simp -implicitDefEqProofs [oZ,u1,u2,eq_true g,eq_true g2]
 all_goals (repeat' split) <;> first | rfl | omega | (simp_all; done) | (simp_all; omega) | skip
end M
set_option maxHeartbeats 4000000
namespace M
open Go
theorem I5 (ks : List Kp) (hb : wL aR ks≤1073741824) : aK (ai (ev LI TT) (aj TT) sB) [(0,.row .af 9 (ks.map (aB .af))),(3,.row .own 9 (([]).map (aB .own))),(6,.row .af 9 (ks.map (aB .af))),(7,.int .i64 ks.length),(8,.int .i64 0)] = some (.exit 0,[(0,.row .af 9 (ks.map (aB .af))),(3,.row .own 9 ((((ks).flatMap (fun k=>[k]))).map (aB .own))),(6,.row .af 9 (ks.map (aB .af))),(7,.int .i64 ks.length),(8,.int .i64 (ks).length),(9,.bool false)]):=by
 refine pO (f:=ai (ev LI TT) (aj TT) sB) (ks) (fun k=>[k]) (fun i out=>[(0,.row .af 9 (ks.map (aB .af))),(3,.row .own 9 ((out).map (aB .own))),(6,.row .af 9 (ks.map (aB .af))),(7,.int .i64 ks.length),(8,.int .i64 i)]) (fun out=>[(0,.row .af 9 (ks.map (aB .af))),(3,.row .own 9 ((out).map (aB .own))),(6,.row .af 9 (ks.map (aB .af))),(7,.int .i64 ks.length),(8,.int .i64 (ks).length),(9,.bool false)]) (fun i b out hi hl hout=>?_) (fun out hout=>?_)
 ·have hw:=aT i (by have:=aY (w:=aR) ks; omega)
  obtain ⟨_,rfl⟩:=List.getElem?_eq_some_iff.1 hi
  have hlk:=aY (w:=aR) ks
  have hm:=qv (List.getElem_mem hl)
  have hlo : out.length = i:=by rw [hout]; exact vP (fun k=>k) _ _ (by omega)
  have hlz : (i + 1) * 136≤140737488355328:=by omega
  have u1:=Eu  (ks[i]).obj (by omega)
  try simp at u1
  simp -implicitDefEqProofs [sB,Bx,hl,hw,u1,hlo,hlz,dN]
 ·simp -implicitDefEqProofs [sB,Bx]
theorem KX (ks : List Kp) (hb : wL aR ks≤1073741824) : ev LI TT 191 [.row .af 9 (ks.map (aB .af))] = some (.row .own 9 (ks.map (aB .own)),[.dead]):=by
 rw [az (b:=wW) (rs:=[.t 2]) (n:=1) rfl rfl]
 have u1:=I5  ks hb
 try simp at u1
 simp -implicitDefEqProofs [wW,u1]
 all_goals (repeat' split) <;> first | rfl | omega | (simp_all; done) | (simp_all; omega) | skip
theorem KZ (s : Sh) (hb : bF s≤1073741824) : ev LI TT 100 [.agg (bk .af s)] = some (.agg (bk .own s),[.dead]):=by
 rw [az (b:=wZ) (rs:=[.c 2 6 true 43]) (n:=1) rfl rfl]
 have fI : bF s = bN s.aE + wL aR s.ay + wL aP s.aJ:=rfl
 have Bd : bN s.aE = wL wS s.aE.cells + wL br s.aE.pending:=rfl
 have l1:=aY (w:=wS) s.aE.cells
 have l2:=aY (w:=br) s.aE.pending
 have l3:=aY (w:=aP) s.aJ
 have u1:=KW  s.aE (by omega) (by omega)
 try simp at u1
 have u2:=KX  s.ay (by omega)
 try simp at u2
 have u3:=Rt s.aJ (by omega)
 try simp at u3
 simp -implicitDefEqProofs [wZ,u1,u2,u3]
 all_goals (repeat' split) <;> first | rfl | omega | (simp_all; done) | (simp_all; omega) | skip
theorem JS (s : Sh) (hb : bF s≤1073741824) : aK (ai (ev LI TT) (aj TT) ux) [(1,.ptr .own (bk .af s)),(2,.ptr .own [.row .own 1 [],.row .own 2 [],.row .own 9 [],.row .own 4 [],.int .i64 0,.int .i64 0]),(3,.ptr .own [.row .own 1 (s.aE.cells.map eS),.row .own 2 (s.aE.pending.map eW),.row .own 9 (([]).map (aB .own)),.row .own 4 (s.aJ.map aQ),.int .i64 s.next,.int .i64 s.seq]),(4,.int .i64 0)] = some (.exit 0,[(1,.ptr .own (bk .af s)),(2,.ptr .own [.row .own 1 [],.row .own 2 [],.row .own 9 [],.row .own 4 [],.int .i64 0,.int .i64 0]),(3,.ptr .own [.row .own 1 (s.aE.cells.map eS),.row .own 2 (s.aE.pending.map eW),.row .own 9 ((((s.ay).flatMap (fun k=>[k]))).map (aB .own)),.row .own 4 (s.aJ.map aQ),.int .i64 s.next,.int .i64 s.seq]),(4,.int .i64 (s.ay).length),(21,.bool false)]):=by
 refine pO (f:=ai (ev LI TT) (aj TT) ux) (s.ay) (fun k=>[k]) (fun i out=>[(1,.ptr .own (bk .af s)),(2,.ptr .own [.row .own 1 [],.row .own 2 [],.row .own 9 [],.row .own 4 [],.int .i64 0,.int .i64 0]),(3,.ptr .own [.row .own 1 (s.aE.cells.map eS),.row .own 2 (s.aE.pending.map eW),.row .own 9 ((out).map (aB .own)),.row .own 4 (s.aJ.map aQ),.int .i64 s.next,.int .i64 s.seq]),(4,.int .i64 i)]) (fun out=>[(1,.ptr .own (bk .af s)),(2,.ptr .own [.row .own 1 [],.row .own 2 [],.row .own 9 [],.row .own 4 [],.int .i64 0,.int .i64 0]),(3,.ptr .own [.row .own 1 (s.aE.cells.map eS),.row .own 2 (s.aE.pending.map eW),.row .own 9 ((out).map (aB .own)),.row .own 4 (s.aJ.map aQ),.int .i64 s.next,.int .i64 s.seq]),(4,.int .i64 (s.ay).length),(21,.bool false)]) (fun i b out hi hl hout=>?_) (fun out hout=>?_)
 ·have hw:=aT i (by have fI : bF s = bN s.aE + wL aR s.ay + wL aP s.aJ:=rfl; have:=aY (w:=aR) s.ay; omega)
  obtain ⟨_,rfl⟩:=List.getElem?_eq_some_iff.1 hi
  have fI : bF s = bN s.aE + wL aR s.ay + wL aP s.aJ:=rfl
  have hlk:=aY (w:=aR) s.ay
  have hm:=qv (List.getElem_mem hl)
  have hlo : out.length = i:=by rw [hout]; exact vP (fun k=>k) _ _ (by omega)
  have hlz : (i + 1) * 136≤140737488355328:=by omega
  have u1:=Aa  (s.ay[i]).obj (by omega)
  try simp at u1
  simp -implicitDefEqProofs [ux,Dl,hl,hw,u1,hlo,hlz,dN]
 ·simp -implicitDefEqProofs [ux,Dl]
theorem TA (l : List Bn) : cF (l.map aQ) = true:=by induction l <;> simp_all [cF,scalar]
theorem L8 (s : Sh) (hb : bF s≤1073741824) : ev LI TT 95 [.agg (bk .af s)] = some (.agg (bk .own s),[.dead]):=by
 rw [az (b:=yN) (rs:=[.c 2 6 true 43]) (n:=1) rfl rfl]
 have fI : bF s = bN s.aE + wL aR s.ay + wL aP s.aJ:=rfl
 have Bd : bN s.aE = wL wS s.aE.cells + wL br s.aE.pending:=rfl
 have l1:=aY (w:=wS) s.aE.cells
 have l2:=aY (w:=br) s.aE.pending
 have l3:=aY (w:=aP) s.aJ
 have u1:=EI  s.aE (by omega) (by omega)
 try simp at u1
 have u2:=JS  s hb
 try simp at u2
 simp -implicitDefEqProofs [yN,u1,u2,TA,rowAt,(by omega : s.aJ.length * 48≤140737488355328),Dm,uy,yT,Dx,qh,uB,Dz,uC,yY,uD,yO,yP,Dn,uz,yQ,yR,Dp,yS,Dq,Dr,uA,yU,yV,Ds,yW,Dt,Du,yX,Dv,Dw,Dy]
 all_goals (repeat' split) <;> first | rfl | omega | (simp_all; done) | (simp_all; omega) | skip
end M
set_option maxHeartbeats 4000000
namespace M
open Go
structure Pl (A : List X) : Prop where
 o : ∀ ks,X.jR ks A = A
 k : ∀ r p,X.dF r p A = A
 m : X.cC .af A = A
 b : X.bare.eP A = true
def lg (z : X) (s : Sh) : List X:=[.row .af 1 (s.aE.cells.map eS),.row .af 2 (s.aE.pending.map eW),z,.row .af 4 (s.aJ.map aQ),.int .i64 s.next,.int .i64 s.seq]
theorem KO (k : Kp) (z : X) (s : Sh) (o : Ob) (hk : aU k.obj≤1073741824) (ho : aU o≤1073741824) : ev LI TT 206 [.agg (aB .af k),.ptr .af [.ptr .af (lg z s)],.ptr .af (bq .af o)] = some (.bool (decide (k.at_ = s.next) || gK k.obj o),[.dead,.dead,.dead]):=by
 rw [az (b:=wJ) (rs:=[.t 4]) (n:=3) rfl rfl]
 have u1:=K3  k.obj o hk ho
 try simp at u1
 by_cases g : k.at_ = s.next
 all_goals
 simp -implicitDefEqProofs [wJ,u1,g,lg]
 all_goals (repeat' split) <;> first | rfl | omega | (simp_all; done) | (simp_all; omega) | skip
theorem IL (l : List Kp) (A B : List X) (hA : Pl A) (hB : Pl B) (gf : Nat) (p : Kp→Bool) (ho : aj TT gf = true) (hf : ∀ x∈l,ev LI TT gf [.agg (aB .af x),.ptr .af A,.ptr .af B] = some (.bool (p x),[.dead,.dead,.dead])) (hb : l.length≤9223372036854775807) : aK (ai (ev LI TT) (aj TT) lz) [(0,.row .af 9 (l.map (aB .af))),(1,.fn gf [.ptr .af A,.ptr .af B]),(7,.int .i64 l.length),(8,.int .i64 0)] = (cB p 0 (l)).elim (some (.exit 0,[(0,.row .af 9 (l.map (aB .af))),(1,.fn gf [.ptr .af A,.ptr .af B]),(7,.int .i64 l.length),(8,.int .i64 (l).length),(9,.bool false)])) fun x=>some (.ret,(fun (i : Nat) b=>[(4,.int .i64 i)]) x.1 x.2):=by
 refine tA (f:=ai (ev LI TT) (aj TT) lz) (l) (fun i=>[(0,.row .af 9 (l.map (aB .af))),(1,.fn gf [.ptr .af A,.ptr .af B]),(7,.int .i64 l.length),(8,.int .i64 i)]) p (fun (i : Nat) b=>[(4,.int .i64 i)]) _ (fun i b hi hl=>?_) ?_
 ·have hw:=aT i (by first | omega | (simp at hl; omega))
  obtain ⟨_,rfl⟩:=List.getElem?_eq_some_iff.1 hi
  have u1:=hf l[i] (List.getElem_mem hl)
  try simp at u1
  simp -implicitDefEqProofs [lz,uZ,hl,hw,u1,ho,nO,hA.o,hA.k,hA.m,hA.b,hB.o,hB.k,hB.m,hB.b]
  all_goals (repeat' split) <;> first | rfl | omega | (simp_all; done) | (simp_all; omega) | skip
 ·simp -implicitDefEqProofs [lz,uZ,hA.o,hA.k,hA.m,hA.b,hB.o,hB.k,hB.m,hB.b]
theorem Kz (l : List Kp) (A B : List X) (hA : Pl A) (hB : Pl B) (gf : Nat) (p : Kp→Bool) (ho : aj TT gf = true) (hf : ∀ x∈l,ev LI TT gf [.agg (aB .af x),.ptr .af A,.ptr .af B] = some (.bool (p x),[.dead,.dead,.dead])) (hb : l.length≤9223372036854775807) : ev LI TT 268 [.row .af 9 (l.map (aB .af)),.fn gf [.ptr .af A,.ptr .af B]] = some (.int .i64 ((cB p 0 l).elim (-1) fun x=>(x.1 : Int)),[.dead,.dead]):=by
 rw [az (b:=mM) (rs:=[.t 4]) (n:=2) rfl rfl]
 have u1:=IL  l A B hA hB gf p ho hf hb
 try simp at u1
 cases g : cB p 0 l with
 | none=>rw [g] at u1; simp at u1; simp -implicitDefEqProofs [mM,u1,hA.o,hA.k,hA.m,hA.b,hB.o,hB.k,hB.m,hB.b]
 | some x =>
 rw [g] at u1
 simp at u1
 simp -implicitDefEqProofs [mM,u1,hA.o,hA.k,hA.m,hA.b,hB.o,hB.k,hB.m,hB.b]
 all_goals (repeat' split) <;> first | rfl | omega | (simp_all; done) | (simp_all; omega) | skip
end M
set_option maxHeartbeats 400000
namespace M
open Go
theorem G7 {α : Type} (T : List α) (n : Nat) (a : α) (h : T[n]? = some a) (g : α→α) : T.modify n g = T.set n (g a):=by
 apply List.ext_getElem?
 intro j
 rw [List.getElem?_modify,List.getElem?_set]
 by_cases e : n = j
 ·subst e
  obtain ⟨hi,hh⟩:=List.getElem?_eq_some_iff.1 h
  have hg : T[n] = a:=hh
  simp [hg,hi]
 ·simp [e]
theorem HS {α : Type} (T : List α) (n : Nat) (a : α) (g : α→α) : (T.set n a).modify n g = T.set n (g a):=by
 apply List.ext_getElem?
 intro j
 rw [List.getElem?_modify,List.getElem?_set,List.getElem?_set]
 by_cases e : n = j
 ·subst e
  by_cases h : n < T.length <;> simp [h]
 ·simp [e]
def iA (k : Kp) : List X:=[.str ⟨k.obj.path.toArray⟩,.dead,.dead,.int .i64 k.obj.resp.status,.dead,.str ⟨k.obj.resp.body.toArray⟩,.int .i64 k.obj.t,.int .i64 k.at_,.int .i64 k.seq]
theorem IK (A : List X) (hA : Pl A) (B : List X) (hB : Pl B) (gf : Nat) (p : Kp→Bool) (ho : aj TT gf = true) (T : List (List X)) (v : Kp) (n f : Nat) (AL : n < T.length) (hv : T[n] = aB .own v) (hfn : f < n) (u : Kp) (hF : T[f] = aB .own u∨T[f] = iA u) (hb : T.length≤1073741824) (hf : ev LI TT gf [.agg (aB .af v),.ptr .af A,.ptr .af B] = some (.bool (p v),[.dead,.dead,.dead])) : ai (ev LI TT) (aj TT) mL [(0,.ref 100000 []),(1,.fn gf [.ptr .af A,.ptr .af B]),(5,.int .i64 (f : Nat)),(6,.int .i64 ((n : Nat) : Int)),(100000,.row .own 9 T)] = some (.normal,[(0,.ref 100000 []),(1,.fn gf [.ptr .af A,.ptr .af B]),(5,.int .i64 ((if p v = true then f else f + 1 : Nat) : Int)),(6,.int .i64 ((n + 1 : Nat) : Int)),(100000,.row .own 9 (if p v = true then T.set n (iA v) else (T.set n (iA v)).set f (aB .own v)))]):=by
 have hw:=aT n (by omega)
 have jJ:=aT f (by omega)
 have hm:=G7 T n _ (List.getElem?_eq_some_iff.2 ⟨AL,hv⟩)
 try simp at hf hv hm
 have Gi : f < T.length:=by omega
 cases hp : p v
 ·rw [hp] at hf
  have hne : ¬ n = f:=by omega
  have rI : ¬ f = n:=by omega
  have hm2 : ∀ u',T[f] = u'→∀ w g,(T.set n w).modify f g = (T.set n w).set f (g u'):=fun u' h w g=>G7 _ f _ (by simp [List.getElem?_set,hne,Gi,h]) g
  rcases hF with hF | hF
  all_goals simp [iA] at hF
  all_goals have QG:=hm2 _ hF
  all_goals clear hm2
  all_goals simp -implicitDefEqProofs [mL,zB,hw,jJ,AL,hv,hf,hF,Gi,hne,rI,hm,QG,HS,ho,nO,hA.o,hA.k,hA.m,hA.b,hB.o,hB.k,hB.m,hB.b,hp,iA]
 ·simp -implicitDefEqProofs [mL,zB,hw,jJ,AL,hv,hf,hm,HS,ho,nO,hA.o,hA.k,hA.m,hA.b,hB.o,hB.k,hB.m,hB.b,hp,iA]
def iB {α β : Type} (p : α→Bool) (d : α→β) (g : List α×List β) (v : α) : List α×List β:=if p v = true then (g.1,g.2 ++ [d v]) else (g.1 ++ [v],g.2.tail ++ [d v])
theorem Fa {α β : Type} (p : α→Bool) (d : α→β) : ∀ (l : List α) (i : Nat) (g : List α×List β),(foldI (fun _ g v=>iB p d g v) i l g).1 = g.1 ++ l.filter (fun v=>!p v)
 | [],i,g=>by simp [foldI]
 | v :: l,i,g=>by
  rw [foldI,Fa p d l]
  unfold iB
  cases h : p v <;> simp [h]
structure DX {α β : Type} (e d : α→β) (n : Nat) (g : List α×List β) : Prop where
 n : g.1.length + g.2.length = n
 m : 1≤g.2.length
 r : ∀ x∈g.2,∃ u,x = e u∨x = d u
theorem DX.go {α β : Type} {e d : α→β} {n : Nat} {g : List α×List β} (h : DX e d n g) (p : α→Bool) (v : α) : DX e d (n + 1) (iB p d g v):=by
 obtain ⟨F,M⟩:=g
 have hn:=h.n
 have hm:=h.m
 have hr:=h.r
 simp at hn hm hr
 unfold iB
 split
 ·refine ⟨by simp; omega,by simp,fun x hx=>?_⟩
  rcases List.mem_append.1 hx with hx | hx
  ·exact hr x hx
  ·exact ⟨v,.inr (by simpa using hx)⟩
 ·refine ⟨by simp; omega,by simp,fun x hx=>?_⟩
  rcases List.mem_append.1 hx with hx | hx
  ·exact hr x (List.mem_of_mem_tail hx)
  ·exact ⟨v,.inr (by simpa using hx)⟩
theorem DX.row {α β : Type} {e d : α→β} {n : Nat} {g : List α×List β} (h : DX e d n g) (p : α→Bool) (v : α) (R T : List β) (hT : T = g.1.map e ++ g.2 ++ e v :: R) : T.length = n + 1 + R.length∧T[n]? = some (e v)∧g.1.length < n∧(∃ u,T[g.1.length]? = some (e u)∨T[g.1.length]? = some (d u))∧(if p v = true then T.set n (d v) else (T.set n (d v)).set g.1.length (e v)) = (iB p d g v).1.map e ++ (iB p d g v).2 ++ R∧(if p v = true then g.1.length else g.1.length + 1) = (iB p d g v).1.length:=by
 obtain ⟨F,M⟩:=g
 have hn:=h.n
 have hm:=h.m
 have hr:=h.r
 simp at hn hm hr hT ⊢
 subst hT
 obtain ⟨a,M',rfl⟩ : ∃ a M',M = a :: M':=by cases M with | nil=>simp at hm | cons a M=>exact ⟨_,_,rfl⟩
 have e1 : n = (F.map e).length + (a :: M').length:=by simp; simp at hn; omega
 have e2 : F.length = (F.map e).length:=by simp
 obtain ⟨u,hu⟩:=hr a (by simp)
 refine ⟨by simp at hn ⊢; omega,?_,by simp at hn; omega,⟨u,?_⟩,?_,?_⟩
 ·rw [e1,← List.length_append,← List.append_assoc]
  simp
 ·rw [e2]
  rcases hu with rfl | rfl <;> simp
 ·have s1 : ∀ w,(F.map e ++ (a :: M' ++ e v :: R)).set n w = F.map e ++ (a :: M' ++ w :: R):=by
   intro w
   rw [e1]
   simp [List.set_append,Nat.add_comm,Nat.add_sub_cancel]
  rw [s1]
  unfold iB
  cases hp : p v
  ·simp only [hp,Bool.false_eq_true,if_false]
   rw [e2,List.set_append_right _ _ (Nat.le_refl _)]
   simp
  ·simp
 ·unfold iB
  cases hp : p v <;> simp
theorem DX.fold {α β : Type} {e d : α→β} (p : α→Bool) : ∀ (l : List α) (i : Nat) {n : Nat} {g : List α×List β},DX e d n g→DX e d (n + l.length) (foldI (fun _ g v=>iB p d g v) i l g)
 | [],i,n,g,h=>h
 | v :: l,i,n,g,h=>by
  have:=DX.fold p l (i + 1) (h.go p v)
  rw [foldI,List.length_cons,show n + (l.length + 1) = n + 1 + l.length by omega]
  exact this
theorem II (A : List X) (hA : Pl A) (B : List X) (hB : Pl B) (gf : Nat) (T : List (List X)) (n f : Nat) (hn : T.length = n) : ai (ev LI TT) (aj TT) mL [(0,.ref 100000 []),(1,.fn gf [.ptr .af A,.ptr .af B]),(5,.int .i64 (f : Nat)),(6,.int .i64 ((n : Nat) : Int)),(100000,.row .own 9 T)] = some (.exit 0,[(0,.ref 100000 []),(1,.fn gf [.ptr .af A,.ptr .af B]),(5,.int .i64 (f : Nat)),(6,.int .i64 ((n : Nat) : Int)),(19,.bool false),(100000,.row .own 9 T)]):=by
 subst hn
 simp -implicitDefEqProofs [mL,zB,hA.o,hA.k,hA.m,hA.b,hB.o,hB.k,hB.m,hB.b]
theorem IJ (A : List X) (hA : Pl A) (B : List X) (hB : Pl B) (gf : Nat) (p : Kp→Bool) (ho : aj TT gf = true) (l : List Kp) (hf : ∀ x∈l,ev LI TT gf [.agg (aB .af x),.ptr .af A,.ptr .af B] = some (.bool (p x),[.dead,.dead,.dead])) (hb : l.length≤1073741824) (i0 : Nat) (hi0 : i0 < l.length) (g : List Kp×List (List X)) (hg : DX (aB .own) iA (i0 + 1) g) : ∃ g' : List Kp×List (List X),g'.1 = g.1 ++ (l.drop (i0 + 1)).filter (fun v=>!p v)∧DX (aB .own) iA l.length g'∧aK (ai (ev LI TT) (aj TT) mL) [(0,.ref 100000 []),(1,.fn gf [.ptr .af A,.ptr .af B]),(5,.int .i64 ((g.1.length : Nat) : Int)),(6,.int .i64 ((i0 + 1 : Nat) : Int)),(100000,.row .own 9 (g.1.map (aB .own) ++ g.2 ++ (l.drop (i0 + 1)).map (aB .own)))] = some (.exit 0,[(0,.ref 100000 []),(1,.fn gf [.ptr .af A,.ptr .af B]),(5,.int .i64 ((g'.1.length : Nat) : Int)),(6,.int .i64 (l.length : Nat)),(19,.bool false),(100000,.row .own 9 (g'.1.map (aB .own) ++ g'.2))]):=by
 have hd : (l.drop (i0 + 1)).length + (i0 + 1) = l.length:=by rw [List.length_drop]; omega
 refine ⟨foldI (fun _ g v=>iB p iA g v) 0 (l.drop (i0 + 1)) g,Fa ..,?_,?_⟩
 ·have:=DX.fold p (l.drop (i0 + 1)) 0 hg
  rwa [show i0 + 1 + (l.drop (i0 + 1)).length = l.length by omega] at this
 ·refine kQ (f:=ai (ev LI TT) (aj TT) mL) (l.drop (i0 + 1)) (fun i (g : List Kp×List (List X))=>[(0,.ref 100000 []),(1,.fn gf [.ptr .af A,.ptr .af B]),(5,.int .i64 ((g.1.length : Nat) : Int)),(6,.int .i64 ((i0 + 1 + i : Nat) : Int)),(100000,.row .own 9 (g.1.map (aB .own) ++ g.2 ++ (l.drop (i0 + 1 + i)).map (aB .own)))]) (fun _ g v=>iB p iA g v) (fun g=>[(0,.ref 100000 []),(1,.fn gf [.ptr .af A,.ptr .af B]),(5,.int .i64 ((g.1.length : Nat) : Int)),(6,.int .i64 (l.length : Nat)),(19,.bool false),(100000,.row .own 9 (g.1.map (aB .own) ++ g.2))]) (fun i g=>DX (aB .own) iA (i0 + 1 + i) g) g hg (fun i b g hi hl hinv=>?_) (fun i b g hi hinv=>?_) (fun g hinv=>?_)
  ·obtain ⟨hl',rfl⟩:=List.getElem?_eq_some_iff.1 hi
   have l8 : i0 + 1 + i < l.length:=by rw [List.length_drop] at hl'; omega
   have fX : (l.drop (i0 + 1))[i] = l[i0 + 1 + i]:=by rw [List.getElem_drop]
   have e : l.drop (i0 + 1 + i) = l[i0 + 1 + i] :: l.drop (i0 + 1 + (i + 1)):=by rw [List.drop_eq_getElem_cons l8]; rfl
   obtain ⟨r1,r2,r3,⟨u,r4⟩,r5,r6⟩:=hinv.row p l[i0 + 1 + i] ((l.drop (i0 + 1 + (i + 1))).map (aB .own)) (g.1.map (aB .own) ++ g.2 ++ (l.drop (i0 + 1 + i)).map (aB .own)) (by rw [e,List.map_cons])
   rw [fX]
   obtain ⟨q1,q2⟩:=List.getElem?_eq_some_iff.1 r2
   have hr4 : ∃ h : g.1.length < (g.1.map (aB .own) ++ g.2 ++ (l.drop (i0 + 1 + i)).map (aB .own)).length,(g.1.map (aB .own) ++ g.2 ++ (l.drop (i0 + 1 + i)).map (aB .own))[g.1.length] = aB .own u∨(g.1.map (aB .own) ++ g.2 ++ (l.drop (i0 + 1 + i)).map (aB .own))[g.1.length] = iA u:=by
    rcases r4 with r4 | r4
    ·obtain ⟨a,b⟩:=List.getElem?_eq_some_iff.1 r4
     exact ⟨a,.inl b⟩
    ·obtain ⟨a,b⟩:=List.getElem?_eq_some_iff.1 r4
     exact ⟨a,.inr b⟩
   obtain ⟨_,hr4⟩:=hr4
   have hs:=IK A hA B hB gf p ho _ l[i0 + 1 + i] (i0 + 1 + i) g.1.length q1 q2 r3 u hr4 (by rw [r1,List.length_map,List.length_drop]; omega) (hf _ (List.getElem_mem l8))
   rw [hs,r5,r6,show i0 + 1 + i + 1 = i0 + 1 + (i + 1) by omega]
  ·exact hinv.go p b
  ·rw [show i0 + 1 + (l.drop (i0 + 1)).length = l.length by omega] at hinv ⊢
   rw [List.drop_length,List.map_nil,List.append_nil]
   exact II A hA B hB gf _ _ _ (by rw [List.length_append,List.length_map]; exact hinv.n)
theorem M8 (hi : Nat) (z : List X) (F M : List (List X)) (n : Nat) (hn : n = F.length) : (lU n hi z (F ++ M)).take n = F:=by
 subst hn
 unfold lU
 apply List.ext_getElem?
 intro j
 rw [List.getElem?_take]
 split
 ·rename_i h
  rw [List.getElem?_mapIdx,List.getElem?_append_left h,List.getElem?_eq_getElem h]
  simp [Nat.not_le_of_lt h]
 ·rename_i h
  rw [List.getElem?_eq_none (by omega)]
theorem M7 (n hi : Nat) (z : List X) (T : List (List X)) : (lU n hi z T).length = T.length:=by simp [lU]
theorem Ky (l : List Kp) (A B : List X) (hA : Pl A) (hB : Pl B) (gf : Nat) (p : Kp→Bool) (ho : aj TT gf = true) (hf : ∀ x∈l,ev LI TT gf [.agg (aB .af x),.ptr .af A,.ptr .af B] = some (.bool (p x),[.dead,.dead,.dead])) (hb : l.length≤1073741824) : ev LI TT 197 [.row .own 9 (l.map (aB .own)),.fn gf [.ptr .af A,.ptr .af B]] = some (.row .own 9 ((l.filter (fun v=>!p v)).map (aB .own)),[.dead,.dead]):=by
 rw [az (b:=uV) (rs:=[.t 4]) (n:=2) rfl rfl]
 have u1:=Kz l A B hA hB gf p ho hf (by omega)
 cases hg : cB p 0 l with
 | none =>
  rw [hg] at u1
  simp at u1
  have hl : l.filter (fun v=>!p v) = l:=List.filter_eq_self.2 fun x hx=>by have:=Aw.1 hg x hx; simpa using this
  rw [hl]
  simp -implicitDefEqProofs [uV,u1,hA.o,hA.k,hA.m,hA.b,hB.o,hB.k,hB.m,hB.b]
 | some x =>
  obtain ⟨i,b⟩:=x
  rw [hg] at u1
  simp at u1
  obtain ⟨e,YR,hq,hfl⟩:=M9 hg
  obtain ⟨_,hi1,_⟩:=nw hg
  obtain ⟨hi,_⟩:=List.getElem?_eq_some_iff.1 hi1
  rw [Nat.sub_zero] at hi
  have hw:=aT i (by omega)
  obtain ⟨g',r1,r2,u2⟩:=IJ A hA B hB gf p ho l hf hb i hi (l.take i,[aB .own b]) ⟨by simp; omega,by simp,fun x hx=>⟨b,.inl (by simpa using hx)⟩⟩
  rw [hfl]
  have hn:=r2.n
  have e2 : (l.take i).map (aB .own) ++ [aB .own b] ++ (l.drop (i + 1)).map (aB .own) = l.map (aB .own):=by
   conv=>rhs; rw [e]
   simp
  simp only [e2,List.length_take,Nat.min_eq_left (Nat.le_of_lt hi)] at u2
  dsimp only at r1
  rw [← r1]
  simp at u2
  have ft:=fun hi z=>M8 hi z (g'.1.map (aB .own)) g'.2 g'.1.length (by simp)
  simp -implicitDefEqProofs [uV,u1,u2,hw,pT,M7,ft,hA.o,hA.k,hA.m,hA.b,hB.o,hB.k,hB.m,hB.b]
  all_goals omega
end M
namespace M
open Go
def eN (g : Nat×Nat) (b : UInt8) : Nat×Nat:=((g.1 + b.toNat) % 65521,(g.2 + (g.1 + b.toNat) % 65521) % 65521)
theorem zn (g : Nat×Nat) (b : UInt8) : (eN g b).1 < 65521∧(eN g b).2 < 65521:=⟨Nat.mod_lt _ (by decide),Nat.mod_lt _ (by decide)⟩
theorem Ig (g : Nat×Nat) (b : UInt8) (h : g.1 < 65521∧g.2 < 65521) : (IntKind.i64.wrap (↑g.1 + IntKind.i64.wrap ↑b.toNat)).tmod 65521 = ↑(eN g b).1 ∧
  (IntKind.i64.wrap (↑g.2 + (IntKind.i64.wrap (↑g.1 + IntKind.i64.wrap ↑b.toNat)).tmod 65521)).tmod 65521 = ↑(eN g b).2:=by
 have hb:=b.toNat_lt
 have e1 : IntKind.i64.wrap (↑g.1 + IntKind.i64.wrap ↑b.toNat) = ((g.1 + b.toNat : Nat) : Int):=by rw [aN (n:=(b.toNat : Int)) (by omega) (by omega),aN (by omega) (by omega)]; omega
 have e2 : (((g.1 + b.toNat : Nat) : Int)).tmod 65521 = ↑(eN g b).1:=by rw [Int.tmod_eq_emod_of_nonneg (by omega)]; unfold eN; omega
 have h1:=(zn g b).1
 have e3 : IntKind.i64.wrap (↑g.2 + (↑(eN g b).1 : Int)) = ((g.2 + (eN g b).1 : Nat) : Int):=by rw [aN (by omega) (by omega)]; omega
 rw [e1,e2,e3]
 refine ⟨rfl,?_⟩
 rw [Int.tmod_eq_emod_of_nonneg (by omega)]
 unfold eN
 omega
def eM (s : ah) : Nat×Nat:=foldI (fun _ g b=>eN g b) 0 s (1,0)
theorem FJ {γ β : Type} {go : Nat→γ→β→γ} {I : γ→Prop} (h : ∀ i g b,I g→I (go i g b)) : ∀ (l : List β) (i : Nat) (g : γ),I g→I (foldI go i l g)
 | [],_,_,hg=>hg
 | b :: l,i,g,hg=>FJ h l (i + 1) _ (h i g b hg)
theorem DJ (s : ah) : (eM s).1 < 65521∧(eM s).2 < 65521:=FJ (I:=fun g=>g.1 < 65521∧g.2 < 65521) (fun _ g b _=>zn g b) s 0 _ (by simp)
def iS (s : ah) : Nat:=65521 * (eM s).2 + (eM s).1
theorem uO (s : ah) : iS s < 10 ^ 10:=by have:=DJ s; unfold iS; omega
theorem JL (s : ah) (hb : s.length≤9223372036854775807) (g : Nat×Nat) (hinv : g.1 < 65521∧g.2 < 65521) : aK (ai (ev LI TT) (aj TT) uk) [(0,.str ⟨s.toArray⟩),(3,.int .i64 (g).1),(4,.int .i64 (g).2),(5,.int .i64 0)] = some (.exit 0,[(0,.str ⟨s.toArray⟩),(3,.int .i64 ((foldI (fun _ g b=>eN g b) 0 (s) g)).1),(4,.int .i64 ((foldI (fun _ g b=>eN g b) 0 (s) g)).2),(5,.int .i64 (s).length),(9,.bool false)]):=by
 refine kQ (f:=ai (ev LI TT) (aj TT) uk) (s) (fun i (g : Nat×Nat)=>[(0,.str ⟨s.toArray⟩),(3,.int .i64 (g).1),(4,.int .i64 (g).2),(5,.int .i64 i)]) (fun _ g b=>eN g b) (fun g=>[(0,.str ⟨s.toArray⟩),(3,.int .i64 (g).1),(4,.int .i64 (g).2),(5,.int .i64 (s).length),(9,.bool false)]) (fun i (g : Nat×Nat)=>g.1 < 65521∧g.2 < 65521) g hinv (fun i b g hi hl hinv=>?_) (fun i b g hi hinv=>?_) (fun g hinv=>?_)
 ·have hw:=aT i (by first | omega | (simp at hl; omega))
  obtain ⟨_,rfl⟩:=List.getElem?_eq_some_iff.1 hi
  skip
  simp -implicitDefEqProofs [uk,C9,hl,hw]
  exact Ig g s[i] hinv
 ·exact zn _ _
 ·simp -implicitDefEqProofs [uk,C9]
theorem L4 (s : ah) (hb : s.length≤9223372036854775807) : ev LI TT 188 [.str ⟨s.toArray⟩] = some (.int .i64 (iS s),[.dead]):=by
 rw [az (b:=yB) (rs:=[.t 2]) (n:=1) rfl rfl]
 have h:=JL  s hb (1,0) (by simp)
 have h2:=DJ s
 have e1 : IntKind.i64.wrap (65521 * ((eM s).2 : Int)) = 65521 * (eM s).2:=aN (by omega) (by omega)
 have e2 : IntKind.i64.wrap (65521 * ((eM s).2 : Int) + (eM s).1) = 65521 * (eM s).2 + (eM s).1:=aN (by omega) (by omega)
 rw [show foldI (fun _ g b=>eN g b) 0 s (1,0) = eM s from rfl] at h
 simp at h
 simp -implicitDefEqProofs [yB,h,e1,e2,iS]
 all_goals (repeat' split) <;> first | rfl | omega | (simp_all; done) | (simp_all; omega) | skip
theorem I1 (s : ah) (hb : s.length≤9223372036854775807) (g : Nat×Nat) (hinv : g.1 < 65521∧g.2 < 65521) : aK (ai (ev LI TT) (aj TT) su) [(0,.str ⟨s.toArray⟩),(3,.int .i64 (g).1),(4,.int .i64 (g).2),(5,.int .i64 0)] = some (.exit 0,[(0,.str ⟨s.toArray⟩),(3,.int .i64 ((foldI (fun _ g b=>eN g b) 0 (s) g)).1),(4,.int .i64 ((foldI (fun _ g b=>eN g b) 0 (s) g)).2),(5,.int .i64 (s).length),(9,.bool false)]):=by
 refine kQ (f:=ai (ev LI TT) (aj TT) su) (s) (fun i (g : Nat×Nat)=>[(0,.str ⟨s.toArray⟩),(3,.int .i64 (g).1),(4,.int .i64 (g).2),(5,.int .i64 i)]) (fun _ g b=>eN g b) (fun g=>[(0,.str ⟨s.toArray⟩),(3,.int .i64 (g).1),(4,.int .i64 (g).2),(5,.int .i64 (s).length),(9,.bool false)]) (fun i (g : Nat×Nat)=>g.1 < 65521∧g.2 < 65521) g hinv (fun i b g hi hl hinv=>?_) (fun i b g hi hinv=>?_) (fun g hinv=>?_)
 ·have hw:=aT i (by first | omega | (simp at hl; omega))
  obtain ⟨_,rfl⟩:=List.getElem?_eq_some_iff.1 hi
  skip
  simp -implicitDefEqProofs [su,Bt,hl,hw]
  exact Ig g s[i] hinv
 ·exact zn _ _
 ·simp -implicitDefEqProofs [su,Bt]
theorem KT (s : ah) (hb : s.length≤9223372036854775807) : ev LI TT 266 [.str ⟨s.toArray⟩] = some (.int .i64 (iS s),[.dead]):=by
 rw [az (b:=wP) (rs:=[.t 2]) (n:=1) rfl rfl]
 have h:=I1  s hb (1,0) (by simp)
 have h2:=DJ s
 have e1 : IntKind.i64.wrap (65521 * ((eM s).2 : Int)) = 65521 * (eM s).2:=aN (by omega) (by omega)
 have e2 : IntKind.i64.wrap (65521 * ((eM s).2 : Int) + (eM s).1) = 65521 * (eM s).2 + (eM s).1:=aN (by omega) (by omega)
 rw [show foldI (fun _ g b=>eN g b) 0 s (1,0) = eM s from rfl] at h
 simp at h
 simp -implicitDefEqProofs [wP,h,e1,e2,iS]
 all_goals (repeat' split) <;> first | rfl | omega | (simp_all; done) | (simp_all; omega) | skip
theorem IM (n : Nat) (out : ah) (hn : out.length + n≤9223372036854775807) : aK (ai (ev LI TT) (aj TT) Dk) [(0,.int .i64 n),(3,.str ⟨out.toArray⟩)] = some (.exit 0,[(0,.int .i64 0),(3,.str ⟨(gG n out).toArray⟩),(7,.bool false)]):=by
 have hs : ∀ s,ai (ev LI TT) (aj TT) Dk s = ai (ev LI TT) (aj TT) yL s:=fun _=>rfl
 induction n using Nat.strongRecOn generalizing out with
 | ind n ih =>
  rw [gZ,hs]
  unfold gG
  by_cases h : n = 0
  ·subst h
   simp -implicitDefEqProofs [yL]
  ·have hp : 0 < n:=by omega
   have:=ih (n / 10) (by omega) (UInt8.ofNat (48 + n % 10) :: out) (by rw [List.length_cons]; omega)
   have e1 : ((n : Int)).tmod 10 = ((n % 10 : Nat) : Int):=by rw [Int.tmod_eq_emod_of_nonneg (by omega)]; omega
   have e4 : ((n : Int)).tdiv 10 = ((n / 10 : Nat) : Int):=by rw [Int.tdiv_eq_ediv_of_nonneg (by omega)]; omega
   have e2 : IntKind.i64.wrap (48 + ((n % 10 : Nat) : Int)) = ((48 + n % 10 : Nat) : Int):=by rw [aN (by omega) (by omega)]; omega
   have e3 : IntKind.u8.wrap ((48 + n % 10 : Nat) : Int) = ((48 + n % 10 : Nat) : Int):=zA (by omega) (by omega)
   have e5:=DU (48 + n % 10) (by omega)
   have e6 : IntKind.i64.wrap ((n / 10 : Nat) : Int) = ((n / 10 : Nat) : Int):=aN (by omega) (by omega)
   simp only [h,dite_false]
   rw [← this]
   simp -implicitDefEqProofs [yL,hp,tn,e1,e2,e3,e4,e5,e6,-Int.natCast_emod,-Int.natCast_ediv,-Int.natCast_add,-UInt8.ofNat_add,gJ,(by omega : 1 + out.length≤9223372036854775807)]
theorem Ab (n : Nat) (hk : n≤9223372036854775800) : ev LI TT 187 [.int .i64 (n : Int)] = some (.str ⟨(bn n).toArray⟩,[.dead]):=by
 rw [az (b:=uw) (rs:=[.t 2]) (n:=1) rfl rfl]
 by_cases h : n = 0
 ·subst h; simp -implicitDefEqProofs [uw,Fb]
 have h1:=IM  n [] (by simp; omega)
 rw [G4 n [] h,List.append_nil] at h1
 simp -implicitDefEqProofs [uw,h,h1]
 all_goals (repeat' split) <;> first | rfl | omega | (simp_all; done) | (simp_all; omega) | skip
def yj (n : Nat) (b : ah) : ah:=bn (iS (bn n ++ 32 :: (bn b.length ++ 10 :: b))) ++ 32 :: (bn n ++ 32 :: (bn b.length ++ 10 :: b))
def en (n : Int) (b : ah) : ah:=if 1≤n∧n≤100000∧b.length≤2000 then yj n.toNat b else []
theorem L0 (n : Int) (b : ah) (hb : b.length≤9223372036854775807) : ev LI TT 97 [.int .i64 n,.str ⟨b.toArray⟩] = some (.str ⟨(en n b).toArray⟩,[.dead,.dead]):=by
 rw [az (b:=qg) (rs:=[.t 4]) (n:=2) rfl rfl]
 by_cases h1 : ¬ (1≤n∧n≤100000)
 ·have h1' : ¬ (1≤n∧n≤100000∧b.length≤2000):=by omega
  simp -implicitDefEqProofs [qg,h1,en,h1']
 by_cases h2 : 2000 < b.length
 ·have h1' : ¬ (1≤n∧n≤100000∧b.length≤2000):=by omega
  have fW : (2000 : Int) < b.length:=by omega
  simp -implicitDefEqProofs [qg,h1,en,h1',h2,fW]
 obtain ⟨m,rfl⟩ : ∃ m : Nat,n = m:=⟨n.toNat,by omega⟩
 have l1:=ko 5 m (by omega)
 have l2:=ko 5 b.length (by omega)
 have l3:=ko 17 (iS (bn m ++ 32 :: (bn b.length ++ 10 :: b))) (Nat.lt_trans (uO _) (by decide))
 have k1:=Ab  m (by omega)
 have k2:=Ab  b.length (by omega)
 have k4:=Ab  (iS (bn m ++ 32 :: (bn b.length ++ 10 :: b))) (by have:=uO (bn m ++ 32 :: (bn b.length ++ 10 :: b)); omega)
 have k3:=L4  (bn m ++ 32 :: (bn b.length ++ 10 :: b)) (by simp; omega)
 have fW : ¬ (2000 < (b.length : Int)):=by omega
 have h3 : 1≤m∧m≤100000:=by omega
 have h4 : b.length≤2000:=by omega
 simp -implicitDefEqProofs [qg,fW,h3,h4,k1,k2,k3,k4,gJ,en,yj]
 repeat rw [if_pos (by omega)]
theorem KK (n : Int) (b : ah) (hb : b.length≤9223372036854775807) : ev LI TT 194 [.int .i64 n,.str ⟨b.toArray⟩] = some (.str ⟨(en n b).toArray⟩,[.dead,.dead]):=by
 rw [az (b:=oX) (rs:=[.t 4]) (n:=2) rfl rfl]
 by_cases h1 : ¬ (1≤n∧n≤100000)
 ·have h1' : ¬ (1≤n∧n≤100000∧b.length≤2000):=by omega
  simp -implicitDefEqProofs [oX,h1,en,h1']
 by_cases h2 : 2000 < b.length
 ·have h1' : ¬ (1≤n∧n≤100000∧b.length≤2000):=by omega
  have fW : (2000 : Int) < b.length:=by omega
  simp -implicitDefEqProofs [oX,h1,en,h1',h2,fW]
 obtain ⟨m,rfl⟩ : ∃ m : Nat,n = m:=⟨n.toNat,by omega⟩
 have l1:=ko 5 m (by omega)
 have l2:=ko 5 b.length (by omega)
 have l3:=ko 17 (iS (bn m ++ 32 :: (bn b.length ++ 10 :: b))) (Nat.lt_trans (uO _) (by decide))
 have k1:=mZ m (by omega)
 have k2:=mZ b.length (by omega)
 have k4:=mZ (iS (bn m ++ 32 :: (bn b.length ++ 10 :: b))) (by have:=uO (bn m ++ 32 :: (bn b.length ++ 10 :: b)); omega)
 have k3:=KT  (bn m ++ 32 :: (bn b.length ++ 10 :: b)) (by simp; omega)
 have fW : ¬ (2000 < (b.length : Int)):=by omega
 have h3 : 1≤m∧m≤100000:=by omega
 have h4 : b.length≤2000:=by omega
 simp -implicitDefEqProofs [oX,fW,h3,h4,k1,k2,k3,k4,gJ,en,yj]
 repeat rw [if_pos (by omega)]
end M
set_option maxHeartbeats 4000000
namespace M
open Go
theorem Hi (o : Ob) (hb : aU o≤1073741824) : (cR o).length≤9223372036854775807:=by
 by_cases hok : dh o = true
 ·have hw : aU o = o.path.length + wL wS o.names + wL wS o.values + bD o.resp:=rfl
  have hrl:=CX o.resp
  have hvl:=DW o.values
  have A:=CE hok
  have a2:=A.n4
  have a1:=A.len
  have a3:=CD o.t
  have a4:=kq o.values.length (by omega)
  have et : cR o = kT ++ 32 :: (o.path ++ 32 :: (e9 o.t ++ 32 :: (bn o.values.length ++ 10 :: (j6 o.values ++ fk o.resp)))):=by
   unfold cR pW tM fk
   rw [if_pos hok,if_pos A.resp]
   simp
  rw [et]
  simp [tv]
  omega
 ·rw [(CF o).2 hok]
  simp
structure J6 (s : Sh) : Prop where
 d : ei s.aE = true
 b : (s.aJ.length : Int)≤5
 n : 5≤s.next∧s.next≤19
 q : 1≤s.seq∧s.seq≤100000
 bs : aZ gq s.aJ = true
 os : pX s.seq s.ay = true
theorem HV {s : Sh} (h : dW s = true) : J6 s:=by
 unfold dW at h
 simp only [Bool.and_eq_true,decide_eq_true_eq] at h
 exact ⟨h.1.1.1.1.1,h.1.1.1.1.2,h.1.1.1.2,h.1.1.2,h.1.2,h.2⟩
def iY (s : Sh) (o : Ob) : List Kp:=s.ay.filter fun k=>!(decide (k.at_ = s.next) || gK k.obj o)
def o8 (s : Sh) (o : Ob) : Bool:=dh o && !kF s.aJ o && !decide (s.seq = 100000) && !decide (en s.seq (cR o) = [])
def BH (s : Sh) (o : Ob) : Sh:=⟨nZ s.aE s.next (en s.seq (cR o)),iY s o ++ [⟨o,s.next,s.seq⟩],s.aJ,tJ s.next,s.seq + 1⟩
def gF (s : Sh) (o : Ob) : Sh:=if o8 s o = true then BH s o else s
theorem J3 (s : Sh) : Pl [.ptr .af (lg .dead s)]:=⟨by simp [lg],by simp [lg],by simp [lg],by simp [lg]⟩
theorem J2 (o : Ob) : Pl (bq .af o):=⟨by simp,by simp,by simp,by simp⟩
theorem KN (s : Sh) (o : Ob) (h : dW s = true) (hb : bF s≤1073741824) (ho : aU o≤1073741824) : ev LI TT 113 [.ptr .own (bk .own s),.agg (bq .af o)] = some (.bool (o8 s o),[.ptr .own (bk .own (gF s o)),.dead]):=by
 rw [az (b:=mh) (rs:=[.t 4]) (n:=2) rfl rfl]
 have A:=HV h
 have hn:=A.n
 have hq:=A.q
 have fI : bF s = bN s.aE + wL aR s.ay + wL aP s.aJ:=rfl
 have l1:=aY (w:=aR) s.ay
 have l2:=List.length_filter_le (fun k=>!(decide (k.at_ = s.next) || gK k.obj o)) s.ay
 have v1:=KJ o ho
 have v2:=KK s.seq (cR o) (Hi o ho)
 have v3:=vp o ho
 have v4:=KF s.aJ o (by omega) ho
 try simp at v1 v2 v3 v4
 have hlz : ((iY s o).length + 1) * 136≤140737488355328:=by unfold iY; omega
 have hw:=aN (n:=s.seq + 1) (by omega) (by omega)
 unfold gF o8
 cases g1 : dh o
 ·simp -implicitDefEqProofs [mh,v1,v2,v3,v4,g1]
 cases g2 : kF s.aJ o
 rotate_left
 ·simp -implicitDefEqProofs [mh,v1,v2,v3,v4,g1,g2]
 by_cases g3 : s.seq = 100000
 ·rw [g3] at v2; simp -implicitDefEqProofs [mh,v1,v2,v3,v4,g1,g2,g3]
 by_cases g4 : en s.seq (cR o) = []
 ·rw [g4] at v2; simp -implicitDefEqProofs [mh,v1,v2,v3,v4,g1,g2,g3,g4]
 have v5:=Ky s.ay [.ptr .af (lg .dead s)] (bq .af o) (J3 s) (J2 o) 206 (fun k=>decide (k.at_ = s.next) || gK k.obj o) rfl (fun k hk=>KO k .dead s o (by have:=qv hk; omega) ho) (by omega)
 have v6:=KR ⟨s.aE,iY s o,s.aJ,s.next,s.seq⟩ s.next (en s.seq (cR o)) A.d
 have v7:=Eu o ho
 have v8:=KV s.next hn
 unfold p7 at v6
 rw [show s.ay.filter (fun k=>!(decide (k.at_ = s.next) || gK k.obj o)) = iY s o from rfl] at v5
 try simp [lg] at v5 v6 v7 v8
 unfold BH
 simp -implicitDefEqProofs [mh,gI,eo,v1,v2,v3,v4,v5,v6,v7,v8,g1,g2,g3,g4,hw,hlz,dN,Bm,Bo,Bp,Bq,Br]
 all_goals (repeat' split) <;> first | rfl | omega | (simp_all; done) | (simp_all; omega) | skip
end M
set_option maxHeartbeats 4000000
namespace M
open Go
theorem Na {β : Type} (p : β→Bool) (l : List β) : l.flatMap (fun k=>if p k = true then [k] else []) = l.filter p:=by
 induction l with
 | nil=>rfl
 | cons a l ih=>cases h : p a <;> simp [h,ih]
def iR : Sh:=⟨⟨[],[]⟩,[],[],0,0⟩
theorem KG (s : Sh) (o : Ob) (hb : bF s≤1073741824) (ho : aU o≤1073741824) : ev LI TT 41 [.agg (bk .af s),.agg (bq .af o)] = some (.au [.agg (bk .own (if dW s = true then gF s o else iR)),.bool ((dW s && o8 s o))],[.dead,.dead]):=by
 rw [az (b:=rZ) (rs:=[.c 4 6 true 43,.t 5]) (n:=2) rfl rfl]
 have u1:=KM  s hb
 try simp at u1
 have u2:=KZ  s hb
 try simp at u2
 cases g : dW s
 ·simp -implicitDefEqProofs [rZ,u1,g,iR]
 have v1:=KN s o g hb ho
 try simp at v1
 simp -implicitDefEqProofs [rZ,u1,u2,g,v1]
 all_goals (repeat' split) <;> first | rfl | omega | (simp_all; done) | (simp_all; omega) | skip
theorem JC (s : Sh) (o : Ob) (hb : bF s≤1073741824) (ho : aU o≤1073741824) (t : ah) : aK (ai (ev LI TT) (aj TT) qc) [(2,.ptr .own (bk .af s)),(3,.ptr .own (bq .af o)),(4,.ptr .own [.row .own 1 [],.row .own 2 [],.row .own 9 [],.row .own 4 [],.int .i64 0,.int .i64 0]),(6,.str ⟨t.toArray⟩),(7,.ptr .own [.row .own 1 (s.aE.cells.map eS),.row .own 2 (s.aE.pending.map eW),.row .own 9 (([]).map (aB .own)),.row .own 4 (s.aJ.map aQ),.int .i64 s.next,.int .i64 s.seq]),(8,.int .i64 0)] = some (.exit 0,[(2,.ptr .own (bk .af s)),(3,.ptr .own (bq .af o)),(4,.ptr .own [.row .own 1 [],.row .own 2 [],.row .own 9 [],.row .own 4 [],.int .i64 0,.int .i64 0]),(6,.str ⟨t.toArray⟩),(7,.ptr .own [.row .own 1 (s.aE.cells.map eS),.row .own 2 (s.aE.pending.map eW),.row .own 9 ((((s.ay).flatMap (fun k=>if (!(decide (k.at_ = s.next) || gK k.obj o)) = true then [k] else []))).map (aB .own)),.row .own 4 (s.aJ.map aQ),.int .i64 s.next,.int .i64 s.seq]),(8,.int .i64 (s.ay).length),(45,.bool false)]):=by
 refine pO (f:=ai (ev LI TT) (aj TT) qc) (s.ay) (fun k=>if (!(decide (k.at_ = s.next) || gK k.obj o)) = true then [k] else []) (fun i out=>[(2,.ptr .own (bk .af s)),(3,.ptr .own (bq .af o)),(4,.ptr .own [.row .own 1 [],.row .own 2 [],.row .own 9 [],.row .own 4 [],.int .i64 0,.int .i64 0]),(6,.str ⟨t.toArray⟩),(7,.ptr .own [.row .own 1 (s.aE.cells.map eS),.row .own 2 (s.aE.pending.map eW),.row .own 9 ((out).map (aB .own)),.row .own 4 (s.aJ.map aQ),.int .i64 s.next,.int .i64 s.seq]),(8,.int .i64 i)]) (fun out=>[(2,.ptr .own (bk .af s)),(3,.ptr .own (bq .af o)),(4,.ptr .own [.row .own 1 [],.row .own 2 [],.row .own 9 [],.row .own 4 [],.int .i64 0,.int .i64 0]),(6,.str ⟨t.toArray⟩),(7,.ptr .own [.row .own 1 (s.aE.cells.map eS),.row .own 2 (s.aE.pending.map eW),.row .own 9 ((out).map (aB .own)),.row .own 4 (s.aJ.map aQ),.int .i64 s.next,.int .i64 s.seq]),(8,.int .i64 (s.ay).length),(45,.bool false)]) (fun i b out hi hl hout=>?_) (fun out hout=>?_)
 ·have hw:=aT i (by have fI : bF s = bN s.aE + wL aR s.ay + wL aP s.aJ:=rfl; have:=aY (w:=aR) s.ay; omega)
  obtain ⟨_,rfl⟩:=List.getElem?_eq_some_iff.1 hi
  have fI : bF s = bN s.aE + wL aR s.ay + wL aP s.aJ:=rfl
  have hlk:=aY (w:=aR) s.ay
  have hm:=qv (List.getElem_mem hl)
  have hlo : out.length≤i:=by rw [hout]; exact FH _ (fun b=>by split <;> simp) _ _
  have hlz : (out.length + 1) * 136≤140737488355328:=by omega
  have u1:=Aa  (s.ay[i]).obj (by omega)
  try simp at u1
  have u2:=Ma  (s.ay[i]).obj o (by omega) ho
  try simp at u2
  by_cases g : (s.ay[i]).at_ = s.next
  ·simp -implicitDefEqProofs [qc,yx,g,hl,hw]
  cases g2 : gK (s.ay[i]).obj o
  all_goals
  simp -implicitDefEqProofs [qc,yx,hl,hw,u1,u2,hlz,dN,g,g2]
 ·simp -implicitDefEqProofs [qc,yx]
theorem LX (s : Sh) (o : Ob) (hb : bF s≤1073741824) (ho : aU o≤1073741824) : ev LI TT 39 [.agg (bk .af s),.agg (bq .af o)] = some (.au [.agg (bk .own (if dW s = true then gF s o else iR)),.bool ((dW s && o8 s o))],[.dead,.dead]):=by
 rw [az (b:=ld) (rs:=[.c 4 6 true 43,.t 5]) (n:=2) rfl rfl]
 have u1:=L2  s hb
 try simp at u1
 have u2:=L8  s hb
 try simp at u2
 cases g : dW s
 ·simp -implicitDefEqProofs [ld,u1,g,iR]
 rw [g] at u1
 have A:=HV g
 have hn:=A.n
 have hq:=A.q
 have fI : bF s = bN s.aE + wL aR s.ay + wL aP s.aJ:=rfl
 have l1:=aY (w:=aR) s.ay
 have l2:=List.length_filter_le (fun k=>!(decide (k.at_ = s.next) || gK k.obj o)) s.ay
 have v1:=LZ o ho
 have v2:=L0 s.seq (cR o) (Hi o ho)
 have v3:=vr o ho
 have v4:=LW s.aJ o (by omega) ho
 try simp at v1 v2 v3 v4
 have hlz : ((iY s o).length + 1) * 136≤140737488355328:=by unfold iY; omega
 have hw:=aN (n:=s.seq + 1) (by omega) (by omega)
 unfold gF o8
 cases g1 : dh o
 ·simp -implicitDefEqProofs [ld,u1,u2,v1,v2,v3,v4,g,g1]
 cases g2 : kF s.aJ o
 rotate_left
 ·simp -implicitDefEqProofs [ld,u1,u2,v1,v2,v3,v4,g,g1,g2]
 by_cases g3 : s.seq = 100000
 ·rw [g3] at v2 u1 u2; simp -implicitDefEqProofs [ld,u1,u2,v1,v2,v3,v4,g,g1,g2,g3]
 by_cases g4 : en s.seq (cR o) = []
 ·rw [g4] at v2; simp -implicitDefEqProofs [ld,u1,u2,v1,v2,v3,v4,g,g1,g2,g3,g4]
 have v5:=JC s o hb ho (en s.seq (cR o))
 rw [Na,show s.ay.filter (fun k=>!(decide (k.at_ = s.next) || gK k.obj o)) = iY s o from rfl] at v5
 have v6:=L9 ⟨s.aE,iY s o,s.aJ,s.next,s.seq⟩ s.next (en s.seq (cR o)) A.d (by omega)
 have v7:=Aa o ho
 have v8:=L7 s.next hn
 unfold p7 at v6
 try simp at v5 v6 v7 v8
 unfold BH
 simp -implicitDefEqProofs [ld,u1,u2,v1,v2,v3,v4,v5,v6,v7,v8,g,g1,g2,g3,g4,hw,hlz,dN]
 all_goals (repeat' split) <;> first | rfl | omega | (simp_all; done) | (simp_all; omega) | skip
end M
set_option maxHeartbeats 4000000
namespace M
open Go
theorem WG {α : Type} (w : α→Nat) (l : List α) (i : Nat) (v : α) : wL w (l.set i v)≤wL w l + w v:=by
 unfold wL
 rw [List.length_set]
 induction l generalizing i with
 | nil=>simp
 | cons a l ih =>
  cases i with
  | zero=>simp; omega
  | succ i=>have:=ih i; simp at this ⊢; omega
theorem Iy {α : Type} (w : α→Nat) (a b : List α) : wL w (a ++ b) = wL w a + wL w b:=by
 unfold wL
 simp
 omega
theorem WE {α : Type} (w : α→Nat) (p : α→Bool) (l : List α) : wL w (l.filter p)≤wL w l:=by
 induction l with
 | nil=>simp [wL]
 | cons a l ih =>
  rw [List.filter_cons]
  split <;> simp [wL] at ih ⊢ <;> omega
theorem FK (k : Nat→Bool) : ∀ (ws : List Wr) (i : Nat) (cs : List ah),wL wS (foldI (fK k) i ws cs)≤wL wS cs + wL br ws
 | [],i,cs=>by simp [foldI]
 | w :: ws,i,cs=>by
  have h:=FK k ws (i + 1) (fK k i cs w)
  have h2 : wL wS (fK k i cs w)≤wL wS cs + br w:=by
   unfold fK
   split
   ·exact WG wS cs _ w.text
   ·omega
  have h3 : wL br (w :: ws) = br w + wL br ws + 1:=by simp [wL]; omega
  rw [foldI]
  omega
theorem Nf (d : cg) : bN (fC d)≤bN d:=by
 have:=FK (gX [] true) d.pending 0 d.cells
 show wL wS (nU (gX [] true) d.cells d.pending) + wL br []≤wL wS d.cells + wL br d.pending
 unfold nU
 have h : wL br ([] : List Wr) = 0:=rfl
 omega
theorem S8 (d : cg) (a : Int) (t : ah) : bN (nZ d a t)≤bN d + t.length + 1:=by
 have h:=Nf d
 have h1 : wL br [⟨a,t⟩] = t.length + 1:=by simp [wL,br]; omega
 unfold nZ
 split
 ·show wL wS (fC d).cells + wL br [⟨a,t⟩]≤_
  have h2 : bN (fC d) = wL wS (fC d).cells + wL br []:=rfl
  have h : wL br ([] : List Wr) = 0:=rfl
  omega
 ·show wL wS d.cells + wL br (d.pending ++ [⟨a,t⟩])≤wL wS d.cells + wL br d.pending + t.length + 1
  rw [Iy]
  omega
theorem Th (n : Int) (b : ah) : (en n b).length≤2040:=by
 unfold en
 split
 ·rename_i h
  unfold yj
  have l1:=kq n.toNat (by omega)
  have l2:=kq b.length (by omega)
  have l3:=ko 17 (iS (bn n.toNat ++ 32 :: (bn b.length ++ 10 :: b))) (Nat.lt_trans (uO _) (by decide))
  simp
  omega
 ·simp
theorem Rw (s : Sh) (o : Ob) : bF (gF s o)≤bF s + aU o + 2100:=by
 unfold gF
 split
 ·have h1:=S8 s.aE s.next (en s.seq (cR o))
  have h2:=Th s.seq (cR o)
  have h3 : wL aR (iY s o)≤wL aR s.ay:=WE aR _ _
  have h4 : wL aR [⟨o,s.next,s.seq⟩] = aU o + 1:=by simp [wL,aR]; omega
  show bN (nZ s.aE s.next (en s.seq (cR o))) + wL aR (iY s o ++ [⟨o,s.next,s.seq⟩]) + wL aP s.aJ≤bN s.aE + wL aR s.ay + wL aP s.aJ + aU o + 2100
  rw [Iy]
  omega
 ·omega
end M
set_option maxHeartbeats 4000000
namespace M
open Go
theorem Y8 (a0 : Sh) (k0 : qK a0) (a1 : Ob) (k1 : mY a1) : ∃ ps,ev LI TT 8 [.agg (bk .sl a0),.agg (bq .sl a1)] = some (.bool true,ps):=by
 rw [az (b:=pg) (rs:=[.t 4]) (n:=2) rfl rfl]
 have s0:=LB a0 1048576 k0 (by omega) (by omega)
 have w0:=cj 1048576 (bF a0)
 obtain ⟨m0,e0⟩ : ∃ m,m = aH 1048576 (bF a0):=⟨_,rfl⟩
 rw [← e0] at s0 w0
 try simp at s0
 by_cases z0 : m0 < 0
 ·simp -implicitDefEqProofs [pg,s0,z0]
 have s1:=EC a1 m0 k1 (by omega) (by omega)
 have w1:=cj m0 (aU a1)
 obtain ⟨m1,e1⟩ : ∃ m,m = aH m0 (aU a1):=⟨_,rfl⟩
 rw [← e1] at s1 w1
 try simp at s1
 by_cases z1 : m1 < 0
 ·simp -implicitDefEqProofs [pg,s0,z0,s1,z1]
 have t0:=LO a0 (by omega)
 try simp at t0
 have q0:=Ez a0 a0 (by omega)
 try simp at q0
 have t1:=ED a1 (by omega)
 try simp at t1
 have q1:=Ey a1 a1 (by omega)
 try simp at q1
 have hS:=LX a0 a1 (by omega) (by omega)
 have hI:=KG a0 a1 (by omega) (by omega)
 try simp at hS
 try simp at hI
 have b0 : bF (if dW a0 = true then gF a0 a1 else iR)≤1073741824:=(by have:=Rw a0 a1; have h0 : bF iR = 0:=rfl; split <;> omega)
 have r0:=Ez (if dW a0 = true then gF a0 a1 else iR) (if dW a0 = true then gF a0 a1 else iR) (by omega)
 try simp at r0
 have Xq:=Il a0
 have Cx:=EB a0 1 (by omega) (by omega)
 obtain ⟨K1,hK1⟩ : ∃ x : Int,1 + ((gh a0 : Nat) : Int) = x:=⟨_,rfl⟩
 rw [hK1] at Cx
 try simp at Cx
 have Xr:=T3 a1
 have Cy:=Lq a1 K1 (by omega) (by omega)
 obtain ⟨K2,Qh⟩ : ∃ x : Int,K1 + ((oq a1 : Nat) : Int) = x:=⟨_,rfl⟩
 rw [Qh] at Cy
 try simp at Cy
 have hKn : ¬ K2 < 0:=by omega
 have X0:=Il (if dW a0 = true then gF a0 a1 else iR)
 have CA:=EB (if dW a0 = true then gF a0 a1 else iR) 1 (by omega) (by omega)
 have A9:=Ll (if dW a0 = true then gF a0 a1 else iR) 1 (by omega) (by omega)
 obtain ⟨R1,Qi⟩ : ∃ x : Int,1 + ((gh (if dW a0 = true then gF a0 a1 else iR) : Nat) : Int) = x:=⟨_,rfl⟩
 rw [Qi] at CA A9
 try simp at CA
 try simp at A9
 have Qj : ¬ R1 < 0:=by omega
 simp -implicitDefEqProofs [pg,BL,BM,BN,BO,BP,BQ,BR,BS,BT,BU,s0,z0,s1,z1,t0,q0,t1,q1,hS,hI,r0,Cx,Cy,hKn,CA,A9,Qj,n5,fA,kA,iN]
end M
