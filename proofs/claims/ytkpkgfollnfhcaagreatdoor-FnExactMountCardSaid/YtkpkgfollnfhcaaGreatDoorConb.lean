/- What the functions come to in the machine; no conditions. -/
import Derived.Test.YtkpkgfollnfhcaaGreatDoorCona
set_option linter.unusedSectionVars false
set_option linter.unusedVariables false
set_option linter.unusedSimpArgs false
set_option maxHeartbeats 4000000
namespace M
open Go
theorem ET (d : aV) : wL cj (cQ d).1≤1000:=by
 have:=AO d
 have:=nj (w:=cj) (n:=120) (m:=5) (l:=(cQ d).1) (fun b hb=>OO (this.1 b hb)) this.2.1
 omega
theorem Nc (d : aV) (bs : List Bn) (m : Int) (hd : dF d = true) (hwd : cK d≤16777216) (Du : wL cj bs≤1000) (hm : 0≤m∧m < 100000) :
  aD (ai (ev LI TT) (aj TT) mI) [(0,.ax 100000 [] 0 0),(3,.row .own 9 []),(4,.int .i64 5),(100000,.ptr .own (bh .own ⟨d,[],bs,5,m + 1⟩))] =
  some (.exit 0,[(0,.ax 100000 [] 0 0),(3,.row .own 9 ((jt bs d m).1.map (aA .own))),(4,.int .i64 20),(11,.bool false),(100000,.ptr .own (bh .own ⟨d,[],bs,5,(jt bs d m).2 + 1⟩))]):=by
 obtain ⟨k0,k1,k2⟩:=wG hd
 have:=gO (xt:=0) (f:=ai (ev LI TT) (aj TT) mI) (List.range 15) (fun i (g : List Kp×Int)=>[(0,.ax 100000 [] 0 0),(3,.row .own 9 (g.1.map (aA .own))),(4,.int .i64 ((5 + i : Nat) : Int)),(100000,.ptr .own (bh .own ⟨d,[],bs,5,g.2 + 1⟩))]) (oC bs d)
  (fun g=>[(0,.ax 100000 [] 0 0),(3,.row .own 9 (g.1.map (aA .own))),(4,.int .i64 20),(11,.bool false),(100000,.ptr .own (bh .own ⟨d,[],bs,5,g.2 + 1⟩))])
  (fun i g=>i≤15∧o6 i g) ([],m) ⟨by omega,⟨by simp,by simp,hm,by simp,by simp,by simp⟩⟩ (fun i b g hi hl hg=>?_) (fun i b g hi hg=>?_) (fun g hg=>?_)
 ·refine Eq.trans ?_ this
  simp
 ·have pS : i < 15:=by simpa using hl
  obtain ⟨at_,fH⟩ : ∃ a,((5 + i : Nat) : Int) = a:=⟨_,rfl⟩
  have di : at_ < 20:=by omega
  have hw : IntKind.i64.wrap (at_ + 1) = at_ + 1:=aH (by omega) (by omega)
  have ze : ((5 + (i + 1) : Nat) : Int) = at_ + 1:=by omega
  have u1:=G5 d at_ (by omega) (by omega) (by omega)
  have DH:=yW d at_
  have u2:=G9 (bV d at_) (by omega)
  have hrl:=A9 (bV d at_)
  have kH:=Ba (bV d at_)
  have u3:=Pc (bF (bV d at_)).2.1 (by omega)
  have how:=KM (bF (bV d at_)).2.1
  have jS:=hg.2.n
  have hlz : (g.1.length + 1) * 136≤140737488355328:=by omega
  have hgm:=hg.2.m
  unfold oC
  rw [fH,ze]
  generalize bF (bV d at_) = rr at u2 u3 hrl kH how ⊢
  obtain ⟨n,bd,ok⟩:=rr
  simp only at u2 u3 hrl kH how ⊢
  generalize fm bd = br at u3 how ⊢
  obtain ⟨⟨op,on,ov,⟨rs,rf,rb⟩,ot⟩,pq⟩:=br
  simp only at how
  have u4:=Hh ⟨d,[],bs,5,g.2 + 1⟩ n (by simp only; omega) (by omega)
  have u5:=O9 bs ⟨op,on,ov,⟨rs,rf,rb⟩,ot⟩ (by omega) (by omega)
  simp only at u5 ⊢
  generalize mA bs ⟨op,on,ov,⟨rs,rf,rb⟩,ot⟩ = hb at u5 ⊢
  simp at u1 u2 u3
  cases ok
  ·simp -implicitDefEqProofs [mI,qc,di,hw,u1,u2,u3,lv]
  cases pq
  ·simp -implicitDefEqProofs [mI,qc,di,hw,u1,u2,u3,lv]
  by_cases gq : n < 100000
  rotate_left
  ·have mh : 100000≤n:=by omega
   simp -implicitDefEqProofs [mI,qc,di,hw,u1,u2,u3,lv,gq,mh]
  have mh : ¬ 100000≤n:=by omega
  have pV : (if n < 100000 then max (g.2 + 1) (n + 1) else g.2 + 1) = max g.2 n + 1:=by rw [if_pos gq]; omega
  simp only [pV] at u4
  simp at u4 u5
  cases hb
  ·simp -implicitDefEqProofs [mI,qc,di,hw,u1,u2,u3,u4,u5,lv,hlz,cC,gq,mh]
  ·simp -implicitDefEqProofs [mI,qc,di,hw,u1,u2,u3,u4,u5,lv,gq,mh]
 ·have pS : i < 15:=by have:=(List.getElem?_eq_some_iff.1 hi).1; simpa using this
  exact ⟨by omega,EX bs d pS b hg.2⟩
 ·simp -implicitDefEqProofs [mI,qc]
theorem Pj (d : aV) (bs : List Bn) (m : Int) (hd : dF d = true) (hwd : cK d≤16777216) (Du : wL cj bs≤1000) (hm : 0≤m∧m < 100000) : ev LI TT 222 [.ptr .own (bh .own ⟨d,[],bs,5,m + 1⟩)] = some (.row .own 9 ((fy Kp.seq (jt bs d m).1).map (aA .own)),[.ptr .own (bh .own ⟨d,[],bs,5,(jt bs d m).2 + 1⟩)]):=by
 rw [ay (b:=zH) (rs:=[.t 2]) (n:=1) rfl rfl]
 have u1:=Nc  d bs m hd hwd Du hm
 try simp at u1
 have u2:=Qz  (jt bs d m).1 (VV bs d m hm)
 try simp at u2
 simp -implicitDefEqProofs [zH,u1,u2]
 all_goals (repeat' split) <;> first | rfl | omega | (simp_all; done) | (simp_all; omega) | skip
theorem Pu (x k : Kp) (hx : ck x.obj≤1073741824) (hk : ck k.obj≤1073741824) : ev LI TT 224 [.agg (aA .af x),.ptr .af (aA .af k)] = some (.bool (decide (x.seq = k.seq) || jG x.obj k.obj),[.dead,.dead]):=by
 rw [ay (b:=zX) (rs:=[.t 3]) (n:=2) rfl rfl]
 have u1:=Pq  x.obj k.obj hx hk
 try simp at u1
 by_cases g : x.seq = k.seq
 all_goals
 simp -implicitDefEqProofs [zX,u1,g]
 all_goals (repeat' split) <;> first | rfl | omega | (simp_all; done) | (simp_all; omega) | skip
theorem Na (d : aV) (bs : List Bn) (sq : Int) (all : List Kp) (mB : all.length≤15) (hall : ∀ k∈all,qU k) :
  aD (ai (ev LI TT) (aj TT) rT) [(2,.ptr .own (bh .own ⟨⟨[],[]⟩,[],[],0,0⟩)),(3,.ptr .own (bh .own ⟨d,[],bs,5,sq⟩)),(4,.row .own 9 (all.map (aA .own))),(12,.ref 4 []),(13,.int .i64 all.length),(14,.int .i64 0)] =
  some (.exit 0,[(2,.ptr .own (bh .own ⟨⟨[],[]⟩,[],[],0,0⟩)),(3,.ptr .own (bh .own ⟨d,(iV all).1,bs,(iV all).2,sq⟩)),(4,.row .own 9 (all.map cx)),(12,.ref 4 []),(13,.int .i64 all.length),(14,.int .i64 all.length),(15,.bool false)]):=by
 have:=gO (xt:=0) (f:=ai (ev LI TT) (aj TT) rT) all (fun i (g : List Kp×Int)=>[(2,.ptr .own (bh .own ⟨⟨[],[]⟩,[],[],0,0⟩)),(3,.ptr .own (bh .own ⟨d,g.1,bs,g.2,sq⟩)),(4,.row .own 9 ((all.take i).map cx ++ (all.drop i).map (aA .own))),(12,.ref 4 []),(13,.int .i64 all.length),(14,.int .i64 i)]) (kN all)
  (fun g=>[(2,.ptr .own (bh .own ⟨⟨[],[]⟩,[],[],0,0⟩)),(3,.ptr .own (bh .own ⟨d,g.1,bs,g.2,sq⟩)),(4,.row .own 9 (all.map cx)),(12,.ref 4 []),(13,.int .i64 all.length),(14,.int .i64 all.length),(15,.bool false)])
  (fun i g=>g.1.length≤i) ([],5) (by simp) (fun i b g hi hl hg=>?_) (fun i b g hi hg=>?_) (fun g hg=>?_)
 ·rw [Kb] at this
  refine Eq.trans ?_ this
  simp
 ·obtain ⟨_,rfl⟩:=List.getElem?_eq_some_iff.1 hi
  have hw:=aO i (by omega)
  have hlz : (g.1.length + 1) * 136≤140737488355328:=by omega
  obtain ⟨T,hT⟩ : ∃ T,(all.take i).map cx ++ (all.drop i).map (aA .own) = T:=⟨_,rfl⟩
  have hk:=hall _ (List.getElem_mem hl)
  have u1:=Qw (all.drop (i + 1)) all[i] 224 (fun x=>decide (x.seq = (all[i]).seq) || jG x.obj (all[i]).obj) rfl (fun x hx=>Pu x all[i] (by have:=sJ (hall x (List.mem_of_mem_drop hx)).o; omega) (by have:=sJ hk.o; omega)) (by simp; omega)
  have u2:=Pn (all[i]).at_ hk.a
  have hlb : lG all i all[i] = !aR (fun x=>!(decide (x.seq = (all[i]).seq) || jG x.obj (all[i]).obj)) (all.drop (i + 1)):=by
   unfold lG aR
   rw [List.all_eq_not_any_not]
   simp
  have pQ : T.length = all.length:=by rw [← hT]; simp; omega
  have fN : i < T.length:=by omega
  have e : all.drop i = all[i] :: all.drop (i + 1):=List.drop_eq_getElem_cons hl
  have oa : ((all.take i).map cx).length = i:=by rw [List.length_map,List.length_take]; omega
  have gJ : T[i] = aA .own all[i]:=by
   have h2 : T[i]? = some (aA .own all[i]):=by
    rw [← hT,List.getElem?_append_right (by omega),oa,Nat.sub_self,e]
    rfl
   exact (List.getElem?_eq_some_iff.1 h2).2
  have Js : T.set i (cx all[i]) = (all.take (i + 1)).map cx ++ (all.drop (i + 1)).map (aA .own):=by
   rw [← hT,List.set_append_right _ _ (by omega),oa,Nat.sub_self,e,List.map_cons,List.set_cons_zero,List.take_succ_eq_append_getElem hl,List.map_append,List.append_assoc]
   rfl
  have hml : ∀ (l : List (List X)),X.bx .af l = l.map (X.cR .af):=fun l=>by
   induction l with
   | nil=>rfl
   | cons a l ih=>simp [X.bx,ih]
  have iR : ((X.bx .af (T.set i (cx all[i]))).take all.length).drop (i + 1) = (all.map (aA .af)).drop (i + 1):=by
   have hd1 : (((all.take (i + 1)).map cx).map (X.cR .af)).length = i + 1:=by rw [List.length_map,List.length_map,List.length_take]; omega
   rw [List.take_of_length_le (by rw [hml,List.length_map,List.length_set]; omega),Js,hml,List.map_append]
   rw [List.drop_left' hd1,List.map_map,← List.map_drop]
   apply List.map_congr_left
   intro x _
   simp
  have hm:=oD T i _ (List.getElem?_eq_some_iff.2 ⟨fN,gJ⟩)
  rw [hT,← Js]
  unfold kN
  rw [hlb]
  generalize aR (fun x=>!(decide (x.seq = (all[i]).seq) || jG x.obj (all[i]).obj)) (all.drop (i + 1)) = q at u1 ⊢
  have di : (i : Int) < all.length:=by omega
  have zu : (i : Int) + 1≤all.length:=by omega
  have hc0 : (0 : Int)≤(i : Int) + 1:=by omega
  have ho : aj TT 224 = true:=rfl
  have htk : T.take all.length = T:=List.take_of_length_le (by omega)
  rw [← pQ] at htk
  try simp [cx] at u1 u2 gJ hm iR
  cases q
  ·simp -implicitDefEqProofs [rT,zY,hl,di,hw,fN,pQ,gJ,hm,iR,zu,hc0,u1,u2,oQ,oK,jC,gT,cC,hlz,cx,htk]
  ·simp -implicitDefEqProofs [rT,zY,hl,di,hw,fN,pQ,gJ,hm,iR,zu,hc0,u1,u2,oQ,oK,jC,gT,cC,hlz,cx,htk]
 ·unfold kN
  split
  ·omega
  ·simp; omega
 ·simp -implicitDefEqProofs [rT,zY]
end M
set_option maxHeartbeats 4000000
namespace M
open Go
def s6 : Sh:=⟨⟨List.replicate 20 [],[]⟩,[],[],5,1⟩
theorem O4  : ev LI TT 220 [] = some (.agg (bO .own ⟨List.replicate 20 [],[]⟩),[]):=by
 rw [ay (b:=zx) (rs:=[.c 0 2 true 39]) (n:=0) rfl rfl]
 simp -implicitDefEqProofs [zx]
 all_goals (repeat' split) <;> first | rfl | omega | (simp_all; done) | (simp_all; omega) | skip
theorem P7  : ev LI TT 212 [] = some (.agg (bO .own ⟨List.replicate 20 [],[]⟩),[]):=by
 rw [ay (b:=Bh) (rs:=[.c 0 2 true 39]) (n:=0) rfl rfl]
 simp -implicitDefEqProofs [Bh]
 all_goals (repeat' split) <;> first | rfl | omega | (simp_all; done) | (simp_all; omega) | skip
theorem Pg  : ev LI TT 129 [] = some (.agg (bh .own s6),[]):=by
 rw [ay (b:=zF) (rs:=[.c 0 6 true 43]) (n:=0) rfl rfl]
 have u1:=O4
 try simp at u1
 simp -implicitDefEqProofs [zF,u1,s6]
 all_goals (repeat' split) <;> first | rfl | omega | (simp_all; done) | (simp_all; omega) | skip
theorem Qi  : ev LI TT 120 [] = some (.agg (bh .own s6),[]):=by
 rw [ay (b:=Bt) (rs:=[.c 0 6 true 43]) (n:=0) rfl rfl]
 have u1:=P7
 try simp at u1
 simp -implicitDefEqProofs [Bt,u1,s6]
 all_goals (repeat' split) <;> first | rfl | omega | (simp_all; done) | (simp_all; omega) | skip
theorem Pt (d : aV) (hd : dF d = true) (hwd : cK d≤16777216) : ev LI TT 130 [.agg (bO .own d)] = some (.agg (bh .own (wB d)),[.dead]):=by
 rw [ay (b:=zZ) (rs:=[.c 2 6 true 43]) (n:=1) rfl rfl]
 have B:=AO d
 have O:=wq d
 have u1:=Ph d hd hwd
 have u2:=Pj d (cQ d).1 (cQ d).2 hd hwd (ET d) B.2.2
 have u3:=Na d (cQ d).1 ((gm d).2 + 1) (fk d) (ER d) (fun k hk=>(ES hk).1)
 rw [show jt (cQ d).1 d (cQ d).2 = gm d from rfl,show fy Kp.seq (gm d).1 = fk d from rfl] at u2
 have e : wB d = ⟨d,(iV (fk d)).1,(cQ d).1,(iV (fk d)).2,(gm d).2 + 1⟩:=rfl
 rw [e]
 clear e B O
 generalize iV (fk d) = lk at u3 ⊢
 generalize fk d = all at u2 u3
 generalize gm d = od at u2 u3 ⊢
 generalize cQ d = mb at u1 u2 u3 ⊢
 obtain ⟨cv,nx⟩:=lk
 obtain ⟨WD,WE⟩:=od
 obtain ⟨bs,ms⟩:=mb
 simp at u1 u2 u3
 simp -implicitDefEqProofs [zZ,u1,u2,u3]
 all_goals (repeat' split) <;> first | rfl | omega | (simp_all; done) | (simp_all; omega) | skip
noncomputable def jx (d : aV) : Sh:=if dF d = true then wB d else s6
theorem Pb (d : aV) (hwd : cK d≤16777216) : ev LI TT 47 [.agg (bO .af d)] = some (.agg (bh .own (jx d)),[.dead]):=by
 rw [ay (b:=vj) (rs:=[.c 2 6 true 43]) (n:=1) rfl rfl]
 have Vd : cK d = wL wS d.cells + wL bX d.pending:=rfl
 have l1:=cm (w:=wS) d.cells
 have l2:=cm (w:=bX) d.pending
 unfold jx
 have u1:=O5  d (by omega)
 try simp at u1
 have u2:=Po  d (by omega) (by omega)
 try simp at u2
 by_cases g : dF d = true
 rotate_left
 ·have u3:=Pg
  rw [show dF d = false by simpa using g] at u1 ⊢
  simp at u1 u3
  simp -implicitDefEqProofs [vj,u1,u3]
 have u3:=Pt d g hwd
 rw [g] at u1 ⊢
 simp at u1 u3
 simp -implicitDefEqProofs [vj,u1,u2,u1,u3]
 all_goals (repeat' split) <;> first | rfl | omega | (simp_all; done) | (simp_all; omega) | skip
theorem JY {α : Type} (q : α→Int) (k : α) : ∀ (l : List α) (g : List α×Bool),(l.foldl (gM q k) g).1.length≤g.1.length + 2 * l.length
 | [],g=>by simp
 | x :: l,g=>by
  rw [List.foldl_cons]
  have h:=JY q k l (gM q k g x)
  have h2 : (gM q k g x).1.length≤g.1.length + 2:=by unfold gM; (try dsimp only); split <;> simp
  simp only [List.length_cons]
  omega
theorem xW {n m : Nat} (h : n≤m) (hm : m≤100000:=by decide) : (n + 1) * 136≤140737488355328:=by omega
theorem Cl {i n : Nat} (h : i < n) (hb : n≤1000) : i < 9223372036854775807:=by omega
theorem Oj (T : List (List X)) (n i : Nat) (k x : Kp) (out : List Kp) (fN : i < T.length) (hb : T.length≤1000) (gJ : T[i] = aA .own x) (ho : out.length≤1000) (hq : k.seq < x.seq) :
  ai (ev LI TT) (aj TT) lW [(0,.ref 100000 []),(3,.ptr .own (aA .own k)),(5,.row .own 9 (out.map (aA .own))),(6,.bool false),(7,.int .i64 i),(100000,.row .own 9 T)] = some (.normal,[(0,.ref 100000 []),(3,.ptr .own (cx k)),(5,.row .own 9 ((out ++ [k,x]).map (aA .own))),(6,.bool true),(7,.int .i64 ((i + 1 : Nat) : Int)),(100000,.row .own 9 (T.set i (cx x)))]):=by
 have hz1:=xW ho
 have hz2:=xW (Nat.succ_le_succ ho)
 have nY : (i : Int) < T.length:=Int.ofNat_lt.2 fN
 have hw:=aO i (Cl fN hb)
 have hm:=oD T i _ (List.getElem?_eq_some_iff.2 ⟨fN,gJ⟩)
 try simp at gJ hm
 simp -implicitDefEqProofs [lW,xq,fN,nY,gJ,hm,oQ,hz1,hz2,hq,hw,cC,cx]
theorem Ol (T : List (List X)) (n i : Nat) (k x : Kp) (out : List Kp) (fN : i < T.length) (hb : T.length≤1000) (gJ : T[i] = aA .own x) (ho : out.length≤1000) (hq : ¬ k.seq < x.seq) :
  ai (ev LI TT) (aj TT) lW [(0,.ref 100000 []),(3,.ptr .own (aA .own k)),(5,.row .own 9 (out.map (aA .own))),(6,.bool false),(7,.int .i64 i),(100000,.row .own 9 T)] = some (.normal,[(0,.ref 100000 []),(3,.ptr .own (aA .own k)),(5,.row .own 9 ((out ++ [x]).map (aA .own))),(6,.bool false),(7,.int .i64 ((i + 1 : Nat) : Int)),(100000,.row .own 9 (T.set i (cx x)))]):=by
 have hz1:=xW ho
 have nY : (i : Int) < T.length:=Int.ofNat_lt.2 fN
 have hw:=aO i (Cl fN hb)
 have hm:=oD T i _ (List.getElem?_eq_some_iff.2 ⟨fN,gJ⟩)
 try simp at gJ hm
 simp -implicitDefEqProofs [lW,xq,fN,nY,gJ,hm,oQ,hz1,hq,hw,cC,cx]
theorem Om (T : List (List X)) (n i : Nat) (k x : Kp) (out : List Kp) (fN : i < T.length) (hb : T.length≤1000) (gJ : T[i] = aA .own x) (ho : out.length≤1000) :
  ai (ev LI TT) (aj TT) lW [(0,.ref 100000 []),(3,.ptr .own (cx k)),(5,.row .own 9 (out.map (aA .own))),(6,.bool true),(7,.int .i64 i),(100000,.row .own 9 T)] = some (.normal,[(0,.ref 100000 []),(3,.ptr .own (cx k)),(5,.row .own 9 ((out ++ [x]).map (aA .own))),(6,.bool true),(7,.int .i64 ((i + 1 : Nat) : Int)),(100000,.row .own 9 (T.set i (cx x)))]):=by
 have hz1:=xW ho
 have nY : (i : Int) < T.length:=Int.ofNat_lt.2 fN
 have hw:=aO i (Cl fN hb)
 have hm:=oD T i _ (List.getElem?_eq_some_iff.2 ⟨fN,gJ⟩)
 try simp at gJ hm
 simp -implicitDefEqProofs [lW,xq,fN,nY,gJ,hm,oQ,hz1,hw,cC,cx]
theorem XV (l : List Kp) (i : Nat) (hl : i < l.length) (hb : l.length≤15) : ((l.take i).map cx ++ (l.drop i).map (aA .own)).length = l.length∧((l.take i).map cx ++ (l.drop i).map (aA .own))[i]? = some (aA .own l[i])∧((l.take i).map cx ++ (l.drop i).map (aA .own)).set i (cx l[i]) = (l.take (i + 1)).map cx ++ (l.drop (i + 1)).map (aA .own):=by
 have e : l.drop i = l[i] :: l.drop (i + 1):=List.drop_eq_getElem_cons hl
 have oa : ((l.take i).map cx).length = i:=by rw [List.length_map,List.length_take]; omega
 refine ⟨by simp; omega,?_,?_⟩
 ·rw [List.getElem?_append_right (by omega),oa,Nat.sub_self,e]
  rfl
 ·rw [List.set_append_right _ _ (by omega),oa,Nat.sub_self,e,List.map_cons,List.set_cons_zero,List.take_succ_eq_append_getElem hl,List.map_append,List.append_assoc]
  rfl
def ng (k : Kp) (b : Bool) : List X:=if b = true then cx k else aA .own k
theorem Ya (ks : List Nat) (k : Kp) (b : Bool) : X.lN ks (ng k b) = ng k b:=by cases b <;> simp [ng,cx]
theorem NY (l : List Kp) (k : Kp) (mB : l.length≤15) :
  aD (ai (ev LI TT) (aj TT) lW) [(0,.ref 100000 []),(3,.ptr .own (aA .own k)),(5,.row .own 9 []),(6,.bool false),(7,.int .i64 0),(100000,.row .own 9 (l.map (aA .own)))] = some (.exit 0,[(0,.ref 100000 []),(3,.ptr .own (ng k (l.foldl (gM Kp.seq k) ([],false)).2)),(5,.row .own 9 ((l.foldl (gM Kp.seq k) ([],false)).1.map (aA .own))),(6,.bool (l.foldl (gM Kp.seq k) ([],false)).2),(7,.int .i64 l.length),(12,.bool false),(100000,.row .own 9 (l.map cx))]):=by
 have:=gO (xt:=0) (f:=ai (ev LI TT) (aj TT) lW) l (fun i (g : List Kp×Bool)=>[(0,.ref 100000 []),(3,.ptr .own (ng k g.2)),(5,.row .own 9 (g.1.map (aA .own))),(6,.bool g.2),(7,.int .i64 i),(100000,.row .own 9 ((l.take i).map cx ++ (l.drop i).map (aA .own)))]) (fun _ g x=>gM Kp.seq k g x)
  (fun g=>[(0,.ref 100000 []),(3,.ptr .own (ng k g.2)),(5,.row .own 9 (g.1.map (aA .own))),(6,.bool g.2),(7,.int .i64 l.length),(12,.bool false),(100000,.row .own 9 (l.map cx))])
  (fun i g=>g.1.length≤2 * i) ([],false) (by simp) (fun i b g hi hl hg=>?_) (fun i b g hi hg=>?_) (fun g hg=>?_)
 ·rw [Dg] at this
  refine Eq.trans ?_ this
  simp [ng]
 ·obtain ⟨_,rfl⟩:=List.getElem?_eq_some_iff.1 hi
  obtain ⟨r1,r2,r3⟩:=XV l i hl mB
  rw [← r3]
  generalize (l.take i).map cx ++ (l.drop i).map (aA .own) = T at r1 r2 ⊢
  obtain ⟨q1,q2⟩:=List.getElem?_eq_some_iff.1 r2
  obtain ⟨out,pt⟩:=g
  simp only at hg
  unfold gM ng
  cases pt
  ·by_cases hq : k.seq < (l[i]).seq
   ·have:=Oj T 0 i k l[i] out q1 (by omega) q2 (by omega) hq
    simp only [hq,Bool.false_eq_true,if_false,and_self,if_true,decide_true,Bool.or_true]
    exact this
   ·have:=Ol T 0 i k l[i] out q1 (by omega) q2 (by omega) hq
    simp only [hq,Bool.false_eq_true,if_false,and_false,decide_false,Bool.or_false]
    exact this
  ·have:=Om T 0 i k l[i] out q1 (by omega) q2 (by omega)
   simp only [Bool.true_eq_false,if_false,if_true,false_and,Bool.true_or]
   exact this
 ·unfold gM
  simp only
  split <;> simp <;> omega
 ·simp -implicitDefEqProofs [lW,xq,Ya]
theorem Qo (l : List Kp) (k : Kp) (mB : l.length≤15) : ev LI TT 125 [.row .own 9 (l.map (aA .own)),.agg (aA .own k)] = some (.row .own 9 ((dj Kp.seq k l).map (aA .own)),[.dead,.dead]):=by
 rw [ay (b:=BF) (rs:=[.t 4]) (n:=2) rfl rfl]
 have u1:=NY l k mB
 have hi:=Vk Kp.seq k l []
 simp only [List.nil_append] at hi
 rw [← hi]
 have hlen:=JY Kp.seq k l ([],false)
 generalize l.foldl (gM Kp.seq k) ([],false) = g at u1 hlen ⊢
 obtain ⟨out,pt⟩:=g
 simp only [List.length_nil] at hlen
 have hz1 : (out.length + 1) * 136≤140737488355328:=by omega
 unfold Aa
 unfold ng at u1
 cases pt
 all_goals simp at u1
 all_goals
 simp -implicitDefEqProofs [BF,u1,hz1,cC]
 all_goals (repeat' split) <;> first | rfl | omega | (simp_all; done) | (simp_all; omega) | skip
theorem GP {α : Type} (p : α→Bool) : ∀ (l : List α) (i : Nat) (g : Bool),foldI (fun _ (g : Bool) x=>g && p x) i l g = (g && aR p l)
 | [],i,g=>by simp [foldI,aR]
 | x :: l,i,g=>by rw [foldI,GP p l]; simp [aR,Bool.and_assoc]
theorem OC {α : Type} (p : α→Bool) (l : List α) : aR (fun x=>!p x) l = !(l.any p):=by
 unfold aR
 rw [List.all_eq_not_any_not]
 simp
def fV (all : List Kp) (i : Nat) : List (List X):=all.mapIdx fun j k=>if j < i∧lG all j k = false then cx k else aA .own k
theorem BZ (all : List Kp) (i : Nat) : (fV all i).length = all.length:=by simp [fV]
theorem LX (all : List Kp) (i j : Nat) (h : i≤j) (hj : j < all.length) : (fV all i)[j]? = some (aA .own all[j]):=by
 unfold fV
 rw [List.getElem?_mapIdx,List.getElem?_eq_getElem hj]
 simp only [Option.map_some]
 rw [if_neg (by omega)]
theorem Yv (all : List Kp) : fV all 0 = all.map (aA .own):=by
 apply List.ext_getElem?
 intro j
 unfold fV
 rw [List.getElem?_mapIdx,List.getElem?_map]
 cases all[j]? with
 | none=>rfl
 | some k=>simp only [Option.map_some]; rw [if_neg (by omega)]
theorem BX (all : List Kp) (i j : Nat) : (fV all i)[j]? = all[j]?.map fun k=>if j < i∧lG all j k = false then cx k else aA .own k:=by unfold fV; rw [List.getElem?_mapIdx]
theorem Yu (all : List Kp) (i : Nat) (hi : i < all.length) : fV all (i + 1) = if lG all i all[i] = true then fV all i else (fV all i).set i (cx all[i]):=by
 apply List.ext_getElem?
 intro j
 rw [BX]
 by_cases e : j = i
 ·subst e
  cases hb : lG all j all[j]
  ·simp only [Bool.false_eq_true,if_false]
   rw [List.getElem?_set_self (by rw [BZ]; exact hi),List.getElem?_eq_getElem hi]
   simp only [Option.map_some,hb,and_true]
   rw [if_pos (by omega)]
  ·simp only [if_true]
   rw [BX,List.getElem?_eq_getElem hi]
   simp only [Option.map_some,hb,Bool.true_eq_false,and_false,if_false]
 ·have e2 : j < i + 1↔j < i:=⟨fun h=>by omega,fun h=>by omega⟩
  simp only [e2]
  split
  ·rw [BX]
  ·rw [List.getElem?_set_ne (by omega),BX]
theorem Oe (d : aV) (bs : List Bn) (sq : Int) (cv : List Kp) (nx : Int) (all : List Kp) (mB : all.length≤15) (hall : ∀ k∈all,qU k) (i : Nat) (hi : i < all.length) (T : List (List X)) (hT : ∀ j,i≤j→(h : j < all.length)→T[j]? = some (aA .own all[j])) (pQ : T.length = all.length) :
  aD (ai (ev LI TT) (aj TT) qy) [(2,.ptr .own (bh .own ⟨⟨[],[]⟩,[],[],0,0⟩)),(5,.row .own 9 T),(12,.ptr .own (bh .own ⟨d,cv,bs,nx,sq⟩)),(13,.int .i64 i),(14,.bool true),(15,.int .i64 ((i + 1 : Nat) : Int))] =
  some (.exit 4,[(2,.ptr .own (bh .own ⟨⟨[],[]⟩,[],[],0,0⟩)),(5,.row .own 9 T),(12,.ptr .own (bh .own ⟨d,cv,bs,nx,sq⟩)),(13,.int .i64 i),(14,.bool (!lG all i all[i])),(15,.int .i64 all.length),(83,.bool false)]):=by
 have:=gO (xt:=4) (f:=ai (ev LI TT) (aj TT) qy) (all.drop (i + 1)) (fun j (g : Bool)=>[(2,.ptr .own (bh .own ⟨⟨[],[]⟩,[],[],0,0⟩)),(5,.row .own 9 T),(12,.ptr .own (bh .own ⟨d,cv,bs,nx,sq⟩)),(13,.int .i64 i),(14,.bool g),(15,.int .i64 ((i + 1 + j : Nat) : Int))]) (fun _ (g : Bool) x=>g && !(decide (x.seq = (all[i]).seq) || jG x.obj (all[i]).obj))
  (fun g=>[(2,.ptr .own (bh .own ⟨⟨[],[]⟩,[],[],0,0⟩)),(5,.row .own 9 T),(12,.ptr .own (bh .own ⟨d,cv,bs,nx,sq⟩)),(13,.int .i64 i),(14,.bool g),(15,.int .i64 all.length),(83,.bool false)])
  (fun _ _=>True) true trivial (fun j b g hj hl _=>?_) (fun _ _ _ _ _=>trivial) (fun g _=>?_)
 ·rw [GP,OC] at this
  exact this
 ·rw [List.getElem?_drop] at hj
  obtain ⟨hjl,rfl⟩:=List.getElem?_eq_some_iff.1 hj
  obtain ⟨n,hn⟩ : ∃ n,i + 1 + j = n:=⟨_,rfl⟩
  have hn2 : i + 1 + (j + 1) = n + 1:=by omega
  simp only [hn] at hjl ⊢
  rw [hn2]
  obtain ⟨q1,q2⟩:=List.getElem?_eq_some_iff.1 (hT n (by omega) hjl)
  obtain ⟨q3,q4⟩:=List.getElem?_eq_some_iff.1 (hT i (by omega) hi)
  have hw:=aO n (by omega)
  have di : (n : Int) < T.length:=by omega
  have u1:=Qp (all[n]).obj (all[i]).obj (by have:=sJ (hall _ (List.getElem_mem hjl)).o; omega) (by have:=sJ (hall _ (List.getElem_mem hi)).o; omega)
  clear hT hj hl
  generalize jG (all[n]).obj (all[i]).obj = tw at u1 ⊢
  try simp at u1 q2 q4
  by_cases gq : (all[n]).seq = (all[i]).seq
  ·simp -implicitDefEqProofs [qy,w5,di,hw,q1,q2,q3,q4,gq]
  ·cases tw
   ·simp -implicitDefEqProofs [qy,w5,di,hw,q1,q2,q3,q4,gq,u1]
   ·simp -implicitDefEqProofs [qy,w5,di,hw,q1,q2,q3,q4,gq,u1]
 ·have e : i + 1 + (all.drop (i + 1)).length = all.length:=by rw [List.length_drop]; omega
  rw [e]
  simp -implicitDefEqProofs [qy,w5,pQ]
end M
set_option maxHeartbeats 4000000
namespace M
open Go
theorem Oi (d : aV) (bs : List Bn) (sq : Int) (cv : List Kp) (nx : Int) (all : List Kp) (mB : all.length≤15) (hall : ∀ k∈all,qU k) (i : Nat) (hi : i < all.length) (ho : cv.length≤1000) :
  ai (ev LI TT) (aj TT) qA [(2,.ptr .own (bh .own ⟨⟨[],[]⟩,[],[],0,0⟩)),(5,.row .own 9 (fV all i)),(12,.ptr .own (bh .own ⟨d,cv,bs,nx,sq⟩)),(13,.int .i64 i)] =
  some (.normal,[(2,.ptr .own (bh .own ⟨⟨[],[]⟩,[],[],0,0⟩)),(5,.row .own 9 (fV all (i + 1))),(12,.ptr .own (bh .own ⟨d,(kN all i (cv,nx) all[i]).1,bs,(kN all i (cv,nx) all[i]).2,sq⟩)),(13,.int .i64 ((i + 1 : Nat) : Int))]):=by
 have hz:=xW ho
 have hw:=aO i (Cl hi (by omega))
 have hk:=hall _ (List.getElem_mem hi)
 have u2:=Qm (all[i]).at_ hk.a
 have u1:=Oe d bs sq cv nx all mB hall i hi (fV all i) (fun j h1 h2=>LX all i j h1 h2) (BZ all i)
 have hg:=LX all i i (Nat.le_refl _) hi
 have pQ:=BZ all i
 rw [Yu all i hi]
 unfold kN
 generalize fV all i = T at u1 hg pQ ⊢
 obtain ⟨q1,q2⟩:=List.getElem?_eq_some_iff.1 hg
 have hm:=oD T i _ hg
 have nY : (i : Int) < T.length:=Int.ofNat_lt.2 q1
 have Jt : (i : Int) < all.length:=Int.ofNat_lt.2 hi
 clear hall hk hg
 cases hlb : lG all i all[i]
 ·rw [hlb] at u1
  try simp at u1 u2 q2 hm
  simp -implicitDefEqProofs [qA,Bo,hi,q1,nY,Jt,hw,u1,u2,q2,hm,oQ,hz,cC,cx]
 ·rw [hlb] at u1
  try simp at u1 u2 q2 hm
  simp -implicitDefEqProofs [qA,Bo,hi,q1,nY,Jt,hw,u1,u2,q2]
theorem Oh (d : aV) (bs : List Bn) (sq : Int) (all : List Kp) (mB : all.length≤15) (hall : ∀ k∈all,qU k) :
  aD (ai (ev LI TT) (aj TT) qA) [(2,.ptr .own (bh .own ⟨⟨[],[]⟩,[],[],0,0⟩)),(5,.row .own 9 (all.map (aA .own))),(12,.ptr .own (bh .own ⟨d,[],bs,5,sq⟩)),(13,.int .i64 0)] =
  some (.exit 2,[(2,.ptr .own (bh .own ⟨⟨[],[]⟩,[],[],0,0⟩)),(5,.row .own 9 (fV all all.length)),(12,.ptr .own (bh .own ⟨d,(iV all).1,bs,(iV all).2,sq⟩)),(13,.int .i64 all.length),(75,.bool false)]):=by
 have:=gO (xt:=2) (f:=ai (ev LI TT) (aj TT) qA) all (fun i (g : List Kp×Int)=>[(2,.ptr .own (bh .own ⟨⟨[],[]⟩,[],[],0,0⟩)),(5,.row .own 9 (fV all i)),(12,.ptr .own (bh .own ⟨d,g.1,bs,g.2,sq⟩)),(13,.int .i64 i)]) (kN all)
  (fun g=>[(2,.ptr .own (bh .own ⟨⟨[],[]⟩,[],[],0,0⟩)),(5,.row .own 9 (fV all all.length)),(12,.ptr .own (bh .own ⟨d,g.1,bs,g.2,sq⟩)),(13,.int .i64 all.length),(75,.bool false)])
  (fun i g=>g.1.length≤i∧i≤15) ([],5) (by simp) (fun i b g hi hl hg=>?_) (fun i b g hi hg=>?_) (fun g hg=>?_)
 ·rw [Kb,Yv] at this
  exact this
 ·obtain ⟨_,rfl⟩:=List.getElem?_eq_some_iff.1 hi
  obtain ⟨cv,nx⟩:=g
  exact Oi d bs sq cv nx all mB hall i hl (by have:=hg.1; simp only at this; omega)
 ·have hl:=(List.getElem?_eq_some_iff.1 hi).1
  unfold kN
  split
  ·omega
  ·simp; omega
 ·simp -implicitDefEqProofs [qA,Bo,BZ]
theorem Og (d : aV) (bs : List Bn) (m : Int) (hd : dF d = true) (hwd : cK d≤16777216) (Du : wL cj bs≤1000) (hm : 0≤m∧m < 100000) :
  aD (ai (ev LI TT) (aj TT) mW) [(1,.ptr .own (bO .af d)),(2,.ptr .own (bh .own ⟨⟨[],[]⟩,[],[],0,0⟩)),(3,.ref 22 [(0,0)]),(4,.int .i64 m),(5,.row .own 9 []),(6,.int .i64 5),(20,.ak [.ref 22 [(0,0)],.int .i64 m]),(22,.ak [.row .own 4 (bs.map bw),.int .i64 m])] =
  some (.exit 0,[(1,.ptr .own (bO .af d)),(2,.ptr .own (bh .own ⟨⟨[],[]⟩,[],[],0,0⟩)),(3,.ref 22 [(0,0)]),(4,.int .i64 (jt bs d m).2),(5,.row .own 9 ((fy Kp.seq (jt bs d m).1).map (aA .own))),(6,.int .i64 20),(20,.ak [.ref 22 [(0,0)],.int .i64 m]),(22,.ak [.row .own 4 (bs.map bw),.int .i64 m]),(27,.bool false)]):=by
 obtain ⟨k0,k1,k2⟩:=wG hd
 have:=gO (xt:=0) (f:=ai (ev LI TT) (aj TT) mW) (List.range 15) (fun i (g : List Kp×Int)=>[(1,.ptr .own (bO .af d)),(2,.ptr .own (bh .own ⟨⟨[],[]⟩,[],[],0,0⟩)),(3,.ref 22 [(0,0)]),(4,.int .i64 g.2),(5,.row .own 9 ((fy Kp.seq g.1).map (aA .own))),(6,.int .i64 ((5 + i : Nat) : Int)),(20,.ak [.ref 22 [(0,0)],.int .i64 m]),(22,.ak [.row .own 4 (bs.map bw),.int .i64 m])]) (oC bs d)
  (fun g=>[(1,.ptr .own (bO .af d)),(2,.ptr .own (bh .own ⟨⟨[],[]⟩,[],[],0,0⟩)),(3,.ref 22 [(0,0)]),(4,.int .i64 g.2),(5,.row .own 9 ((fy Kp.seq g.1).map (aA .own))),(6,.int .i64 20),(20,.ak [.ref 22 [(0,0)],.int .i64 m]),(22,.ak [.row .own 4 (bs.map bw),.int .i64 m]),(27,.bool false)])
  (fun i g=>i≤15∧o6 i g) ([],m) ⟨by omega,⟨by simp,by simp,hm,by simp,by simp,by simp⟩⟩ (fun i b g hi hl hg=>?_) (fun i b g hi hg=>?_) (fun g hg=>?_)
 ·refine Eq.trans ?_ this
  simp [fy]
 ·have pS : i < 15:=by simpa using hl
  obtain ⟨at_,fH⟩ : ∃ a,((5 + i : Nat) : Int) = a:=⟨_,rfl⟩
  have di : at_ < 20:=by omega
  have hw : IntKind.i64.wrap (at_ + 1) = at_ + 1:=aH (by omega) (by omega)
  have ze : ((5 + (i + 1) : Nat) : Int) = at_ + 1:=by omega
  have u1:=Ht d at_ (by omega)
  have hin : dF d = true∧(0 : Int)≤at_∧at_≤19:=⟨hd,by omega,by omega⟩
  rw [if_pos hin] at u1
  have DH:=yW d at_
  have u2:=Hx (bV d at_) (by omega)
  have hrl:=A9 (bV d at_)
  have kH:=Ba (bV d at_)
  have u3:=Qe (bF (bV d at_)).2.1 (by omega)
  have how:=KM (bF (bV d at_)).2.1
  have jS:=hg.2.n
  have zu : (fy Kp.seq g.1).length≤15:=by rw [(FV Kp.seq g.1).length_eq]; omega
  unfold oC
  rw [fH,ze]
  clear fH ze
  generalize bF (bV d at_) = rr at u2 u3 hrl kH how ⊢
  obtain ⟨n,bd,ok⟩:=rr
  simp only at u2 u3 hrl kH how ⊢
  generalize fm bd = br at u3 how ⊢
  obtain ⟨⟨op,on,ov,⟨rs,rf,rb⟩,ot⟩,pq⟩:=br
  simp only at how
  have u5:=Qb bs ⟨op,on,ov,⟨rs,rf,rb⟩,ot⟩ (by omega) (by omega)
  have u6:=Qo (fy Kp.seq g.1) ⟨⟨op,on,ov,⟨rs,rf,rb⟩,ot⟩,at_,n⟩ zu
  rw [← Ye] at u6
  have uN : max g.2 n = if n < g.2 then g.2 else n:=by split <;> omega
  simp only at u5 ⊢
  generalize mA bs ⟨op,on,ov,⟨rs,rf,rb⟩,ot⟩ = hb at u5 ⊢
  obtain ⟨g1,g2⟩:=g
  simp only at u6 uN ⊢
  simp at u1 u2 u3 u5 u6
  cases ok
  ·simp -implicitDefEqProofs [mW,qx,di,hw,u1,u2,u3]
  cases pq
  ·simp -implicitDefEqProofs [mW,qx,di,hw,u1,u2,u3]
  by_cases gq : n < 100000
  rotate_left
  ·have mh : 100000≤n:=by omega
   simp -implicitDefEqProofs [mW,qx,di,hw,u1,u2,u3,gq,mh]
  have mh : ¬ 100000≤n:=by omega
  cases hb
  ·simp -implicitDefEqProofs [mW,qx,di,hw,u1,u2,u3,u5,u6,gq,mh,uN]
  ·simp -implicitDefEqProofs [mW,qx,di,hw,u1,u2,u3,u5,gq,mh,uN]
 ·have pS : i < 15:=by have:=(List.getElem?_eq_some_iff.1 hi).1; simpa using this
  exact ⟨by omega,EX bs d pS b hg.2⟩
 ·simp -implicitDefEqProofs [mW,qx]
theorem Qd (d : aV) (hwd : cK d≤16777216) : ev LI TT 45 [.agg (bO .af d)] = some (.agg (bh .own (jx d)),[.dead]):=by
 rw [ay (b:=w6) (rs:=[.c 2 6 true 43]) (n:=1) rfl rfl]
 have Vd : cK d = wL wS d.cells + wL bX d.pending:=rfl
 have l1:=cm (w:=wS) d.cells
 have l2:=cm (w:=bX) d.pending
 unfold jx
 have u1:=Hu  d (by omega)
 try simp at u1
 have u2:=Ql  d (by omega) (by omega)
 try simp at u2
 by_cases g : dF d = true
 rotate_left
 ·have u3:=Qi
  rw [show dF d = false by simpa using g] at u1 ⊢
  simp at u1 u3
  simp -implicitDefEqProofs [w6,u1,u3]
 have B:=AO d
 have u3:=Qn d g hwd
 have u4:=Og d (cQ d).1 (cQ d).2 g hwd (ET d) B.2.2
 have u5:=Oh d (cQ d).1 ((gm d).2 + 1) (fk d) (ER d) (fun k hk=>(ES hk).1)
 have O:=(wq d).m
 have hw : IntKind.i64.wrap ((gm d).2 + 1) = (gm d).2 + 1:=aH (by omega) (by omega)
 rw [show jt (cQ d).1 d (cQ d).2 = gm d from rfl,show fy Kp.seq (gm d).1 = fk d from rfl] at u4
 have e : wB d = ⟨d,(iV (fk d)).1,(cQ d).1,(iV (fk d)).2,(gm d).2 + 1⟩:=rfl
 rw [g] at u1
 rw [g,if_pos rfl,e]
 clear e B O
 generalize iV (fk d) = lk at u5 ⊢
 generalize fk d = all at u4 u5
 generalize gm d = od at u4 u5 hw ⊢
 generalize cQ d = mb at u3 u4 u5 ⊢
 obtain ⟨cv,nx⟩:=lk
 obtain ⟨WD,WE⟩:=od
 obtain ⟨bs,ms⟩:=mb
 simp at u1 u2 u3 u4 u5
 simp -implicitDefEqProofs [w6,u1,u2,u3,u4,u5,hw]
 all_goals (repeat' split) <;> first | rfl | omega | (simp_all; done) | (simp_all; omega) | skip
end M
set_option maxHeartbeats 4000000
namespace M
open Go
theorem We (d : aV) : oV (wB d)≤cK d + 25000:=by
 have h1:=ET d
 have h2 : wL ki (gN (fk d))≤15 * (1300 + 1):=nj (fun k hk=>sJ (ES ((AF _).subset hk)).1.o) (Nat.le_trans (AF _).length_le (ER d))
 show cK d + wL ki (gN (fk d)) + wL cj (cQ d).1≤_
 omega
theorem Wd (d : aV) : oV (jx d)≤cK d + 25000:=by
 unfold jx
 split
 ·exact We d
 ·have : oV s6 = 20:=by decide
  omega
end M
set_option maxHeartbeats 4000000
namespace M
open Go
theorem aea (a0 : aV) (k0 : tN a0) : ∃ ps,ev LI TT 10 [.agg (bO .sl a0)] = some (.bool true,ps):=by
 rw [ay (b:=vH) (rs:=[.t 2]) (n:=1) rfl rfl]
 have s0:=PX a0 1048576 k0 (by omega) (by omega)
 have w0:=iy 1048576 (cK a0)
 obtain ⟨m0,e0⟩ : ∃ m,m = cy 1048576 (cK a0):=⟨_,rfl⟩
 rw [← e0] at s0 w0
 try simp at s0
 by_cases z0 : m0 < 0
 ·simp -implicitDefEqProofs [vH,s0,z0]
 have t0:=P1 a0 (by omega)
 try simp at t0
 have q0:=Hq a0 a0 (by omega)
 try simp at q0
 have hS:=Qd a0 (by omega)
 have hI:=Pb a0 (by omega)
 try simp at hS
 try simp at hI
 have b0 : oV (jx a0)≤1073741824:=(by have:=Wd a0; omega)
 have r0:=PF (jx a0) (jx a0) (by omega)
 try simp at r0
 have cl1:=L6 a0
 have EW:=Hr a0 1 (by omega) (by omega)
 obtain ⟨K1,hK1⟩ : ∃ x : Int,1 + ((fW a0 : Nat) : Int) = x:=⟨_,rfl⟩
 rw [hK1] at EW
 try simp at EW
 have hKn : ¬ K1 < 0:=by omega
 have cr1:=YD (jx a0)
 have EZ:=PV (jx a0) 1 (by omega) (by omega)
 have DQ:=PO (jx a0) 1 (by omega) (by omega)
 obtain ⟨R1,Up⟩ : ∃ x : Int,1 + ((iZ (jx a0) : Nat) : Int) = x:=⟨_,rfl⟩
 rw [Up] at EZ DQ
 try simp at EZ
 try simp at DQ
 have Uq : ¬ R1 < 0:=by omega
 simp -implicitDefEqProofs [vH,s0,z0,t0,q0,hS,hI,r0,EW,hKn,EZ,DQ,Uq,wP,iE,pP,lO]
end M
