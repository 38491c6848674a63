/- What the functions come to in the machine; no conditions. -/
import Derived.Test.YtbbahpjmdjlhgaaDoorTab
import Derived.Test.YtbbahpjmdjlhgaaDoorMc
set_option linter.unusedSectionVars false
set_option linter.unusedVariables false
set_option linter.unusedSimpArgs false
namespace M
open Go
end M
namespace M
open Go
@[simp] theorem GN (x : Int) (lo : Int) (hi : Int) : ev LI TT 33 [.int .i64 x,.int .i64 lo,.int .i64 hi] = some (.bool ((decide (lo≤x∧x≤hi))),[.dead,.dead,.dead]):=by
 rw [bD (b:=qX) (rs:=[.t 6]) (n:=3) rfl rfl]
 simp -implicitDefEqProofs [qX]
 try (by_cases h1 : lo≤x <;> by_cases h2 : x≤hi <;> simp [h1,h2])
@[simp] theorem GL (x : Int) (lo : Int) (hi : Int) : ev LI TT 31 [.int .i64 x,.int .i64 lo,.int .i64 hi] = some (.bool ((decide (lo≤x∧x≤hi))),[.dead,.dead,.dead]):=by
 rw [bD (b:=qw) (rs:=[.t 6]) (n:=3) rfl rfl]
 simp -implicitDefEqProofs [qw]
 try (by_cases h1 : lo≤x <;> by_cases h2 : x≤hi <;> simp [h1,h2])
end M
namespace M
open Go
end M
namespace M
open Go
end M
namespace M
open Go
end M
namespace M
open Go
theorem zU (n : Nat) (out : aj) (hn : out.length + n≤9223372036854775807) : bQ (aA (ev LI TT) (aP TT) uB) [(0,.int .i64 n),(3,.str ⟨out.toArray⟩)] = some (.exit 0,[(0,.int .i64 0),(3,.str ⟨(gR n out).toArray⟩),(10,.bool false)]):=by
 have hs : ∀ s,aA (ev LI TT) (aP TT) uB s = aA (ev LI TT) (aP TT) qS s:=fun _=>rfl
 induction n using Nat.strongRecOn generalizing out with
 | ind n ih =>
  rw [ey,hs]
  unfold gR
  by_cases h : n = 0
  ·subst h
   simp -implicitDefEqProofs [qS]
  ·have hp : 0 < n:=by omega
   have:=ih (n / 10) (by omega) (UInt8.ofNat (48 + n % 10) :: out) (by rw [List.length_cons]; omega)
   have e1 : ((n : Int)).tmod 10 = ((n % 10 : Nat) : Int):=by rw [Int.tmod_eq_emod_of_nonneg (by omega)]; omega
   have e4 : ((n : Int)).tdiv 10 = ((n / 10 : Nat) : Int):=by rw [Int.tdiv_eq_ediv_of_nonneg (by omega)]; omega
   have e2 : IntKind.i64.wrap (48 + ((n % 10 : Nat) : Int)) = ((48 + n % 10 : Nat) : Int):=by rw [bu (by omega) (by omega)]; omega
   have e3 : IntKind.u8.wrap ((48 + n % 10 : Nat) : Int) = ((48 + n % 10 : Nat) : Int):=uR (by omega) (by omega)
   have e5:=uP (48 + n % 10) (by omega)
   have e6 : IntKind.i64.wrap ((n / 10 : Nat) : Int) = ((n / 10 : Nat) : Int):=bu (by omega) (by omega)
   simp only [h,dite_false]
   rw [← this]
   simp -implicitDefEqProofs [qS,hp,jQ,e1,e2,e3,e4,e5,e6,-Int.natCast_emod,-Int.natCast_ediv,-Int.natCast_add,-UInt8.ofNat_add,gD,(by omega : 1 + out.length≤9223372036854775807)]
theorem Az (n : Int) : ev LI TT 60 [.int .i64 n] = some (.str ⟨(jW n).toArray⟩,[.dead]):=by
 rw [bD (b:=lB) (rs:=[.t 2]) (n:=1) rfl rfl]
 unfold jW
 by_cases hn : 0≤n∧n≤1000000
 rotate_left
 ·have hf : (decide (0≤n) && decide (n≤1000000)) = false:=by simp; omega
  simp -implicitDefEqProofs [lB,hn,hf]
 obtain ⟨k,rfl⟩ : ∃ k : Nat,n = k:=⟨n.toNat,by omega⟩
 by_cases h : k = 0
 ·subst h; simp -implicitDefEqProofs [lB,vQ]
 have h1:=zU k [] (by simp; omega)
 rw [yd k [] h,List.append_nil] at h1
 simp -implicitDefEqProofs [lB,hn,h,h1]
 all_goals (repeat' split) <;> first | rfl | omega | (simp_all; done) | (simp_all; omega) | skip
theorem zS (s : aj) (hb : s.length≤7) (hd : ju cT s = true) (g : Nat) (hinv : g < 10 ^ 0) : bQ (aA (ev LI TT) (aP TT) fW) [(0,.str ⟨s.toArray⟩),(4,.int .i64 (g : Nat)),(5,.int .i64 0)] = some (.exit 0,[(0,.str ⟨s.toArray⟩),(4,.int .i64 ((foldI (fun _ g b=>10 * g + b.toNat - 48) 0 (s) g) : Nat)),(5,.int .i64 (s).length),(16,.bool false)]):=by
 refine qC (f:=aA (ev LI TT) (aP TT) fW) (s) (fun i (g : Nat)=>[(0,.str ⟨s.toArray⟩),(4,.int .i64 (g : Nat)),(5,.int .i64 i)]) (fun _ g b=>10 * g + b.toNat - 48) (fun g=>[(0,.str ⟨s.toArray⟩),(4,.int .i64 (g : Nat)),(5,.int .i64 (s).length),(16,.bool false)]) (fun i (g : Nat)=>g < 10 ^ i) g hinv (fun i b g hi hl hinv=>?_) (fun i b g hi hinv=>?_) (fun g hinv=>?_)
 ·have hw:=fE i (by first | omega | (simp at hl; omega))
  obtain ⟨_,rfl⟩:=List.getElem?_eq_some_iff.1 hi
  have hx:=jv.1 hd s[i] (List.getElem_mem hl)
  simp only [cT,decide_eq_true_eq] at hx
  have hp : 10 ^ i≤10 ^ 6:=Nat.pow_le_pow_right (by omega) (by omega)
  have h1 : ¬ ((s[i]).toNat : Int) < 48:=by omega
  have h2 : ¬ 57 < ((s[i]).toNat : Int):=by omega
  have e1 : IntKind.i64.wrap (10 * (g : Int)) = 10 * g:=bu (by omega) (by omega)
  have e0 : IntKind.i64.wrap ((s[i]).toNat : Int) = (s[i]).toNat:=bu (by omega) (by omega)
  have e2 : IntKind.i64.wrap (10 * (g : Int) + (s[i]).toNat) = 10 * g + (s[i]).toNat:=bu (by omega) (by omega)
  have e3 : IntKind.i64.wrap (10 * (g : Int) + (s[i]).toNat - 48) = ((10 * g + (s[i]).toNat - 48 : Nat) : Int):=by rw [bu (by omega) (by omega)]; omega
  simp -implicitDefEqProofs [fW,j6,hl,hw,h1,h2,e0,e1,e2,e3]
 ·obtain ⟨hl,rfl⟩:=List.getElem?_eq_some_iff.1 hi
  have hx:=jv.1 hd s[i] (List.getElem_mem hl)
  simp only [cT,decide_eq_true_eq] at hx
  rw [Nat.pow_succ]; omega
 ·simp -implicitDefEqProofs [fW,j6]
theorem zT (s : aj) (hb : s.length≤7) (hd : ¬ ju cT s = true) : bQ (aA (ev LI TT) (aP TT) fW) [(0,.str ⟨s.toArray⟩),(4,.int .i64 0),(5,.int .i64 0)] = some (.ret,[(2,.int .i64 0),(3,.bool false)]):=by
 have key:=Dt (xt:=0) (f:=aA (ev LI TT) (aP TT) fW) s (fun i (g : Nat)=>[(0,.str ⟨s.toArray⟩),(4,.int .i64 (g : Int)),(5,.int .i64 i)]) (fun b g=>if cT b = true then .inl (10 * g + b.toNat - 48) else .inr (.ret,[(2,.int .i64 0),(3,.bool false)])) (fun g=>[(0,.str ⟨s.toArray⟩),(4,.int .i64 (g : Int)),(5,.int .i64 s.length),(16,.bool false)]) (fun i g=>g < 10 ^ i) 0 (by decide) (fun i b g hi hl hinv=>?_) (fun i b g g' hi hinv hg=>?_) (fun g hg=>?_)
 ·have hr : ∀ (r : aj) (g : Nat),¬ ju cT r = true→lz (fun (b : UInt8) (g : Nat)=>if cT b = true then (.inl (10 * g + b.toNat - 48) : Nat ⊕ (Ex×af)) else .inr (.ret,[(2,.int .i64 0),(3,.bool false)])) r g = .inr (.ret,[(2,.int .i64 0),(3,.bool false)]):=by
   intro r
   induction r with
   | nil=>intro g h; exact absurd rfl h
   | cons b r ih =>
    intro g h
    simp only [lz]
    by_cases hb : cT b = true
    ·simp only [hb,if_true]
     exact ih _ fun h'=>h (by rw [jv] at h' ⊢; intro x hx; rcases List.mem_cons.1 hx with rfl | hx; exact hb; exact h' x hx)
    ·simp [hb]
  rw [hr s 0 hd] at key
  simpa [lv] using key
 ·have hw:=fE i (by omega)
  obtain ⟨_,rfl⟩:=List.getElem?_eq_some_iff.1 hi
  by_cases h : cT s[i] = true
  ·have hx:=h
   simp only [cT,decide_eq_true_eq] at hx
   have hp : 10 ^ i≤10 ^ 6:=Nat.pow_le_pow_right (by omega) (by omega)
   have h1 : ¬ ((s[i]).toNat : Int) < 48:=by omega
   have h2 : ¬ 57 < ((s[i]).toNat : Int):=by omega
   have e1 : IntKind.i64.wrap (10 * (g : Int)) = 10 * g:=bu (by omega) (by omega)
   have e0 : IntKind.i64.wrap ((s[i]).toNat : Int) = (s[i]).toNat:=bu (by omega) (by omega)
   have e2 : IntKind.i64.wrap (10 * (g : Int) + (s[i]).toNat) = 10 * g + (s[i]).toNat:=bu (by omega) (by omega)
   have e3 : IntKind.i64.wrap (10 * (g : Int) + (s[i]).toNat - 48) = ((10 * g + (s[i]).toNat - 48 : Nat) : Int):=by rw [bu (by omega) (by omega)]; omega
   simp -implicitDefEqProofs [fW,j6,hl,hw,h,h1,h2,e0,e1,e2,e3]
  ·have hx:=h
   simp only [cT,decide_eq_true_eq] at hx
   by_cases h1 : ((s[i]).toNat : Int) < 48
   ·simp -implicitDefEqProofs [fW,j6,hl,hw,h,h1,lv]
   ·have h2 : 57 < ((s[i]).toNat : Int):=by omega
    simp -implicitDefEqProofs [fW,j6,hl,hw,h,h1,h2,lv]
 ·obtain ⟨hl,rfl⟩:=List.getElem?_eq_some_iff.1 hi
  split at hg
  ·rename_i hx
   simp only [cT,decide_eq_true_eq] at hx
   injection hg with hg
   rw [Nat.pow_succ]; omega
  ·cases hg
 ·simp -implicitDefEqProofs [fW,j6]
theorem wK {β γ : Type} (go : γ→β→γ) : ∀ (l : List β) (i : Nat) (g : γ),foldI (fun _ g b=>go g b) i l g = l.foldl go g
 | [],_,_=>rfl
 | b :: l,i,g=>by rw [foldI,wK go l,List.foldl_cons]
theorem Ay (s : aj) (hb : s.length≤9223372036854775807) : ev LI TT 41 [.str ⟨s.toArray⟩] = some (.ai [.int .i64 ((((bH s).getD 0 : Nat) : Int)),.bool ((bH s).isSome)],[.dead]):=by
 rw [bD (b:=jf) (rs:=[.t 2,.t 3]) (n:=1) rfl rfl]
 by_cases h7 : 7 < s.length
 ·have mO : 7 < (s.length : Int):=by omega
  have hn : ¬ s = []:=by rintro rfl; simp at h7
  simp -implicitDefEqProofs [jf,ym s h7,mO,hn]
 have mO : ¬ 7 < (s.length : Int):=by omega
 rw [DO s (by omega)]
 by_cases h0 : s = []
 ·subst h0; simp -implicitDefEqProofs [jf]
 by_cases hd : ju cT s = true
 rotate_left
 ·have u1:=zT s (by omega) hd
  simp -implicitDefEqProofs [jf,mO,h0,hd,u1]
 have u1:=zS s (by omega) hd 0 (by decide)
 rw [show foldI (fun _ (g : Nat) (b : UInt8)=>10 * g + b.toNat - 48) 0 s 0 = e9 s from wK _ s 0 0] at u1
 simp only [Int.ofNat_zero] at u1
 have u2:=Az (e9 s)
 by_cases ht : jW (e9 s) = s
 rotate_left
 ·simp -implicitDefEqProofs [jf,mO,h0,hd,u1,u2,eq_false ht]
 simp -implicitDefEqProofs [jf,mO,h0,hd,u1,u2,eq_true ht]
 all_goals (repeat' split) <;> first | rfl | omega | (simp_all; done) | (simp_all; omega) | skip
end M
namespace M
open Go
theorem EH (s : aj) (i : Nat) (h : i < (s.map some ++ [none]).length) : (∃ hi : i < s.length,(s.map some ++ [none])[i] = some s[i])∨(i = s.length∧(s.map some ++ [none])[i] = none):=by
 by_cases hi : i < s.length
 ·refine .inl ⟨hi,?_⟩
  rw [List.getElem_append_left (by simpa using hi)]
  simp
 ·simp at h
  obtain rfl : i = s.length:=by omega
  refine .inr ⟨rfl,?_⟩
  rw [List.getElem_append_right (by simp)]
  simp
theorem BU (c : UInt8) (f : aj→List aj) (hf : ∀ w,(f w).length≤1) (s : aj) (i : Nat) (g : List aj×Nat) (b : Option UInt8) (h : g.2≤i∧g.1.length≤i) : (eg c f s i g b).2≤i + 1∧(eg c f s i g b).1.length≤i + 1:=by
 unfold eg
 have:=hf ((s.take i).drop g.2)
 split
 ·split
  ·simp; omega
  ·omega
 ·simp; omega
end M
namespace M
open Go
end M
namespace M
open Go
end M
namespace M
open Go
end M
namespace M
open Go
end M
namespace M
open Go
end M
namespace M
open Go
def cQ (g : Nat×Nat) (b : UInt8) : Nat×Nat:=((g.1 + b.toNat) % 65521,(g.2 + (g.1 + b.toNat) % 65521) % 65521)
theorem oL (g : Nat×Nat) (b : UInt8) : (cQ g b).1 < 65521∧(cQ g b).2 < 65521:=⟨Nat.mod_lt _ (by decide),Nat.mod_lt _ (by decide)⟩
theorem zq (g : Nat×Nat) (b : UInt8) (h : g.1 < 65521∧g.2 < 65521) : (IntKind.i64.wrap (↑g.1 + IntKind.i64.wrap ↑b.toNat)).tmod 65521 = ↑(cQ g b).1 ∧
  (IntKind.i64.wrap (↑g.2 + (IntKind.i64.wrap (↑g.1 + IntKind.i64.wrap ↑b.toNat)).tmod 65521)).tmod 65521 = ↑(cQ g b).2:=by
 have hb:=b.toNat_lt
 have e1 : IntKind.i64.wrap (↑g.1 + IntKind.i64.wrap ↑b.toNat) = ((g.1 + b.toNat : Nat) : Int):=by rw [bu (n:=(b.toNat : Int)) (by omega) (by omega),bu (by omega) (by omega)]; omega
 have e2 : (((g.1 + b.toNat : Nat) : Int)).tmod 65521 = ↑(cQ g b).1:=by rw [Int.tmod_eq_emod_of_nonneg (by omega)]; unfold cQ; omega
 have h1:=(oL g b).1
 have e3 : IntKind.i64.wrap (↑g.2 + (↑(cQ g b).1 : Int)) = ((g.2 + (cQ g b).1 : Nat) : Int):=by rw [bu (by omega) (by omega)]; omega
 rw [e1,e2,e3]
 refine ⟨rfl,?_⟩
 rw [Int.tmod_eq_emod_of_nonneg (by omega)]
 unfold cQ
 omega
def cW (s : aj) : Nat×Nat:=foldI (fun _ g b=>cQ g b) 0 s (1,0)
theorem wL {γ β : Type} {go : Nat→γ→β→γ} {I : γ→Prop} (h : ∀ i g b,I g→I (go i g b)) : ∀ (l : List β) (i : Nat) (g : γ),I g→I (foldI go i l g)
 | [],_,_,hg=>hg
 | b :: l,i,g,hg=>wL h l (i + 1) _ (h i g b hg)
theorem rD (s : aj) : (cW s).1 < 65521∧(cW s).2 < 65521:=wL (I:=fun g=>g.1 < 65521∧g.2 < 65521) (fun _ g b _=>oL g b) s 0 _ (by simp)
def b7 (s : aj) : Nat:=65521 * (cW s).2 + (cW s).1
theorem lU (s : aj) : b7 s < 10 ^ 10:=by have:=rD s; unfold b7; omega
theorem zV (s : aj) (hb : s.length≤9223372036854775807) (g : Nat×Nat) (hinv : g.1 < 65521∧g.2 < 65521) : bQ (aA (ev LI TT) (aP TT) n6) [(0,.str ⟨s.toArray⟩),(3,.int .i64 (g).1),(4,.int .i64 (g).2),(5,.int .i64 0)] = some (.exit 0,[(0,.str ⟨s.toArray⟩),(3,.int .i64 ((foldI (fun _ g b=>cQ g b) 0 (s) g)).1),(4,.int .i64 ((foldI (fun _ g b=>cQ g b) 0 (s) g)).2),(5,.int .i64 (s).length),(9,.bool false)]):=by
 refine qC (f:=aA (ev LI TT) (aP TT) n6) (s) (fun i (g : Nat×Nat)=>[(0,.str ⟨s.toArray⟩),(3,.int .i64 (g).1),(4,.int .i64 (g).2),(5,.int .i64 i)]) (fun _ g b=>cQ g b) (fun g=>[(0,.str ⟨s.toArray⟩),(3,.int .i64 (g).1),(4,.int .i64 (g).2),(5,.int .i64 (s).length),(9,.bool false)]) (fun i (g : Nat×Nat)=>g.1 < 65521∧g.2 < 65521) g hinv (fun i b g hi hl hinv=>?_) (fun i b g hi hinv=>?_) (fun g hinv=>?_)
 ·have hw:=fE i (by first | omega | (simp at hl; omega))
  obtain ⟨_,rfl⟩:=List.getElem?_eq_some_iff.1 hi
  skip
  simp -implicitDefEqProofs [n6,uC,hl,hw]
  exact zq g s[i] hinv
 ·exact oL _ _
 ·simp -implicitDefEqProofs [n6,uC]
theorem vp (s : aj) (hb : s.length≤9223372036854775807) : ev LI TT 16 [.str ⟨s.toArray⟩] = some (.int .i64 (b7 s),[.dead]):=by
 rw [bD (b:=qT) (rs:=[.t 2]) (n:=1) rfl rfl]
 have h:=zV  s hb (1,0) (by simp)
 have h2:=rD s
 have e1 : IntKind.i64.wrap (65521 * ((cW s).2 : Int)) = 65521 * (cW s).2:=bu (by omega) (by omega)
 have e2 : IntKind.i64.wrap (65521 * ((cW s).2 : Int) + (cW s).1) = 65521 * (cW s).2 + (cW s).1:=bu (by omega) (by omega)
 rw [show foldI (fun _ g b=>cQ g b) 0 s (1,0) = cW s from rfl] at h
 simp at h
 simp -implicitDefEqProofs [qT,h,e1,e2,b7]
 all_goals (repeat' split) <;> first | rfl | omega | (simp_all; done) | (simp_all; omega) | skip
theorem zR (s : aj) (hb : s.length≤9223372036854775807) (g : Nat×Nat) (hinv : g.1 < 65521∧g.2 < 65521) : bQ (aA (ev LI TT) (aP TT) nB) [(0,.str ⟨s.toArray⟩),(3,.int .i64 (g).1),(4,.int .i64 (g).2),(5,.int .i64 0)] = some (.exit 0,[(0,.str ⟨s.toArray⟩),(3,.int .i64 ((foldI (fun _ g b=>cQ g b) 0 (s) g)).1),(4,.int .i64 ((foldI (fun _ g b=>cQ g b) 0 (s) g)).2),(5,.int .i64 (s).length),(9,.bool false)]):=by
 refine qC (f:=aA (ev LI TT) (aP TT) nB) (s) (fun i (g : Nat×Nat)=>[(0,.str ⟨s.toArray⟩),(3,.int .i64 (g).1),(4,.int .i64 (g).2),(5,.int .i64 i)]) (fun _ g b=>cQ g b) (fun g=>[(0,.str ⟨s.toArray⟩),(3,.int .i64 (g).1),(4,.int .i64 (g).2),(5,.int .i64 (s).length),(9,.bool false)]) (fun i (g : Nat×Nat)=>g.1 < 65521∧g.2 < 65521) g hinv (fun i b g hi hl hinv=>?_) (fun i b g hi hinv=>?_) (fun g hinv=>?_)
 ·have hw:=fE i (by first | omega | (simp at hl; omega))
  obtain ⟨_,rfl⟩:=List.getElem?_eq_some_iff.1 hi
  skip
  simp -implicitDefEqProofs [nB,tF,hl,hw]
  exact zq g s[i] hinv
 ·exact oL _ _
 ·simp -implicitDefEqProofs [nB,tF]
theorem vo (s : aj) (hb : s.length≤9223372036854775807) : ev LI TT 15 [.str ⟨s.toArray⟩] = some (.int .i64 (b7 s),[.dead]):=by
 rw [bD (b:=qv) (rs:=[.t 2]) (n:=1) rfl rfl]
 have h:=zR  s hb (1,0) (by simp)
 have h2:=rD s
 have e1 : IntKind.i64.wrap (65521 * ((cW s).2 : Int)) = 65521 * (cW s).2:=bu (by omega) (by omega)
 have e2 : IntKind.i64.wrap (65521 * ((cW s).2 : Int) + (cW s).1) = 65521 * (cW s).2 + (cW s).1:=bu (by omega) (by omega)
 rw [show foldI (fun _ g b=>cQ g b) 0 s (1,0) = cW s from rfl] at h
 simp at h
 simp -implicitDefEqProofs [qv,h,e1,e2,b7]
 all_goals (repeat' split) <;> first | rfl | omega | (simp_all; done) | (simp_all; omega) | skip
theorem zQ (n : Nat) (out : aj) (hn : out.length + n≤9223372036854775807) : bQ (aA (ev LI TT) (aP TT) uE) [(0,.int .i64 n),(3,.str ⟨out.toArray⟩)] = some (.exit 0,[(0,.int .i64 0),(3,.str ⟨(gR n out).toArray⟩),(7,.bool false)]):=by
 have hs : ∀ s,aA (ev LI TT) (aP TT) uE s = aA (ev LI TT) (aP TT) qU s:=fun _=>rfl
 induction n using Nat.strongRecOn generalizing out with
 | ind n ih =>
  rw [ey,hs]
  unfold gR
  by_cases h : n = 0
  ·subst h
   simp -implicitDefEqProofs [qU]
  ·have hp : 0 < n:=by omega
   have:=ih (n / 10) (by omega) (UInt8.ofNat (48 + n % 10) :: out) (by rw [List.length_cons]; omega)
   have e1 : ((n : Int)).tmod 10 = ((n % 10 : Nat) : Int):=by rw [Int.tmod_eq_emod_of_nonneg (by omega)]; omega
   have e4 : ((n : Int)).tdiv 10 = ((n / 10 : Nat) : Int):=by rw [Int.tdiv_eq_ediv_of_nonneg (by omega)]; omega
   have e2 : IntKind.i64.wrap (48 + ((n % 10 : Nat) : Int)) = ((48 + n % 10 : Nat) : Int):=by rw [bu (by omega) (by omega)]; omega
   have e3 : IntKind.u8.wrap ((48 + n % 10 : Nat) : Int) = ((48 + n % 10 : Nat) : Int):=uR (by omega) (by omega)
   have e5:=uP (48 + n % 10) (by omega)
   have e6 : IntKind.i64.wrap ((n / 10 : Nat) : Int) = ((n / 10 : Nat) : Int):=bu (by omega) (by omega)
   simp only [h,dite_false]
   rw [← this]
   simp -implicitDefEqProofs [qU,hp,jQ,e1,e2,e3,e4,e5,e6,-Int.natCast_emod,-Int.natCast_ediv,-Int.natCast_add,-UInt8.ofNat_add,gD,(by omega : 1 + out.length≤9223372036854775807)]
theorem si (n : Nat) (hk : n≤9223372036854775800) : ev LI TT 34 [.int .i64 (n : Int)] = some (.str ⟨(ay n).toArray⟩,[.dead]):=by
 rw [bD (b:=n9) (rs:=[.t 2]) (n:=1) rfl rfl]
 by_cases h : n = 0
 ·subst h; simp -implicitDefEqProofs [n9,vQ]
 have h1:=zQ  n [] (by simp; omega)
 rw [yd n [] h,List.append_nil] at h1
 simp -implicitDefEqProofs [n9,h,h1]
 all_goals (repeat' split) <;> first | rfl | omega | (simp_all; done) | (simp_all; omega) | skip
def bZ (n : Nat) (b : aj) : aj:=ay (b7 (ay n ++ 32 :: (ay b.length ++ 10 :: b))) ++ 32 :: (ay n ++ 32 :: (ay b.length ++ 10 :: b))
def bY (n : Int) (b : aj) : aj:=if 1≤n∧n≤100000∧b.length≤2000 then bZ n.toNat b else []
theorem sg (n : Int) (b : aj) (hb : b.length≤9223372036854775807) : ev LI TT 9 [.int .i64 n,.str ⟨b.toArray⟩] = some (.str ⟨(bY n b).toArray⟩,[.dead,.dead]):=by
 rw [bD (b:=lC) (rs:=[.t 4]) (n:=2) rfl rfl]
 by_cases h1 : ¬ (1≤n∧n≤100000)
 ·have h1' : ¬ (1≤n∧n≤100000∧b.length≤2000):=by omega
  simp -implicitDefEqProofs [lC,h1,bY,h1']
 by_cases h2 : 2000 < b.length
 ·have h1' : ¬ (1≤n∧n≤100000∧b.length≤2000):=by omega
  have jG : (2000 : Int) < b.length:=by omega
  simp -implicitDefEqProofs [lC,h1,bY,h1',h2,jG]
 obtain ⟨m,rfl⟩ : ∃ m : Nat,n = m:=⟨n.toNat,by omega⟩
 have l1:=dZ 5 m (by omega)
 have l2:=dZ 5 b.length (by omega)
 have l3:=dZ 17 (b7 (ay m ++ 32 :: (ay b.length ++ 10 :: b))) (Nat.lt_trans (lU _) (by decide))
 have k1:=si  m (by omega)
 have k2:=si  b.length (by omega)
 have k4:=si  (b7 (ay m ++ 32 :: (ay b.length ++ 10 :: b))) (by have:=lU (ay m ++ 32 :: (ay b.length ++ 10 :: b)); omega)
 have k3:=vp  (ay m ++ 32 :: (ay b.length ++ 10 :: b)) (by simp; omega)
 have jG : ¬ (2000 < (b.length : Int)):=by omega
 have h3 : 1≤m∧m≤100000:=by omega
 have h4 : b.length≤2000:=by omega
 simp -implicitDefEqProofs [lC,jG,h3,h4,k1,k2,k3,k4,gD,bY,bZ]
 repeat rw [if_pos (by omega)]
theorem r9 (n : Int) (b : aj) (hb : b.length≤9223372036854775807) : ev LI TT 8 [.int .i64 n,.str ⟨b.toArray⟩] = some (.str ⟨(bY n b).toArray⟩,[.dead,.dead]):=by
 rw [bD (b:=kU) (rs:=[.t 4]) (n:=2) rfl rfl]
 by_cases h1 : ¬ (1≤n∧n≤100000)
 ·have h1' : ¬ (1≤n∧n≤100000∧b.length≤2000):=by omega
  simp -implicitDefEqProofs [kU,h1,bY,h1']
 by_cases h2 : 2000 < b.length
 ·have h1' : ¬ (1≤n∧n≤100000∧b.length≤2000):=by omega
  have jG : (2000 : Int) < b.length:=by omega
  simp -implicitDefEqProofs [kU,h1,bY,h1',h2,jG]
 obtain ⟨m,rfl⟩ : ∃ m : Nat,n = m:=⟨n.toNat,by omega⟩
 have l1:=dZ 5 m (by omega)
 have l2:=dZ 5 b.length (by omega)
 have l3:=dZ 17 (b7 (ay m ++ 32 :: (ay b.length ++ 10 :: b))) (Nat.lt_trans (lU _) (by decide))
 have k1:=sj m (by omega)
 have k2:=sj b.length (by omega)
 have k4:=sj (b7 (ay m ++ 32 :: (ay b.length ++ 10 :: b))) (by have:=lU (ay m ++ 32 :: (ay b.length ++ 10 :: b)); omega)
 have k3:=vo  (ay m ++ 32 :: (ay b.length ++ 10 :: b)) (by simp; omega)
 have jG : ¬ (2000 < (b.length : Int)):=by omega
 have h3 : 1≤m∧m≤100000:=by omega
 have h4 : b.length≤2000:=by omega
 simp -implicitDefEqProofs [kU,jG,h3,h4,k1,k2,k3,k4,gD,bY,bZ]
 repeat rw [if_pos (by omega)]
end M
namespace M
open Go
theorem zY (s : aj) (hb : s.length≤1073741824) (g : List aj×Nat) (hinv : g.2≤0∧g.1.length≤0) : bQ (aA (ev LI TT) (aP TT) j9) [(0,.str ⟨s.toArray⟩),(3,.row .own 1 ((g).1.map eS)),(4,.int .i64 ((g).2 : Nat)),(5,.int .i64 0)] = some (.exit 0,[(0,.str ⟨s.toArray⟩),(3,.row .own 1 (((foldI (eg 32 (fun w=>[w]) s) 0 (s.map some ++ [none]) g)).1.map eS)),(4,.int .i64 (((foldI (eg 32 (fun w=>[w]) s) 0 (s.map some ++ [none]) g)).2 : Nat)),(5,.int .i64 (s.map some ++ [none]).length),(10,.bool false)]):=by
 refine qC (f:=aA (ev LI TT) (aP TT) j9) (s.map some ++ [none]) (fun i (g : List aj×Nat)=>[(0,.str ⟨s.toArray⟩),(3,.row .own 1 ((g).1.map eS)),(4,.int .i64 ((g).2 : Nat)),(5,.int .i64 i)]) (eg 32 (fun w=>[w]) s) (fun g=>[(0,.str ⟨s.toArray⟩),(3,.row .own 1 ((g).1.map eS)),(4,.int .i64 ((g).2 : Nat)),(5,.int .i64 (s.map some ++ [none]).length),(10,.bool false)]) (fun i (g : List aj×Nat)=>g.2≤i∧g.1.length≤i) g hinv (fun i b g hi hl hinv=>?_) (fun i b g hi hinv=>?_) (fun g hinv=>?_)
 ·have hw:=fE i (by first | omega | (simp at hl; omega))
  obtain ⟨_,rfl⟩:=List.getElem?_eq_some_iff.1 hi
  have hlz : (g.1.length + 1) * 16≤140737488355328:=by simp at hl; omega
  have w9 : ∀ b : UInt8,((b.toNat : Int) = 32)↔b = 32:=fun b=>⟨fun h=>UInt8.toNat_inj.1 (by have e : (32 : UInt8).toNat = 32:=rfl; omega),fun h=>by subst h; rfl⟩
  rcases EH s i hl with ⟨hi',e⟩ | ⟨rfl,e⟩
  ·rw [e]
   have k1 : (i : Int)≤s.length:=by omega
   have k2 : i≤s.length:=by omega
   have k3 : ¬ i = s.length:=by omega
   have k4 : ¬ (i : Int) = s.length:=by omega
   by_cases hx : s[i] = 32
   rotate_left
   ·have hx':=mt (w9 s[i]).1 hx
    simp -implicitDefEqProofs [j9,oH,k1,k2,k3,k4,hi',hw,eg,hx,hx']
   have hx':=(w9 s[i]).2 hx
   have e3 : (s.take i).drop g.2 = (s.drop g.2).take (i - g.2):=List.drop_take ..
   simp -implicitDefEqProofs [j9,oH,k1,k2,k3,k4,hi',hw,eg,eq_true hx,hx',hinv,Lib.extract_mk,e3,ia,hlz]
  rw [e]
  have e3 : (s.take s.length).drop g.2 = (s.drop g.2).take (s.length - g.2):=List.drop_take ..
  simp only [eg,e3]
  simp -implicitDefEqProofs [j9,oH,hl,hw,hinv,Lib.extract_mk,ia,hlz]
 ·exact BU 32 (fun w=>[w]) (fun _=>Nat.le_refl 1) s i g b hinv
 ·have Co : ¬ ((s.length : Int) + 1≤s.length):=by omega
  simp -implicitDefEqProofs [j9,oH,Co]
theorem vr (s : aj) (hb : s.length≤1073741824) : ev LI TT 40 [.str ⟨s.toArray⟩] = some (.row .own 1 ((br 32 s).map eS),[.dead]):=by
 rw [bD (b:=q8) (rs:=[.t 2]) (n:=1) rfl rfl]
 have u1:=zY s hb ([],0) ⟨by omega,by simp⟩
 rw [BM,List.flatMap_singleton' (br 32 s)] at u1
 simp at u1
 simp -implicitDefEqProofs [q8,u1]
 all_goals (repeat' split) <;> first | rfl | omega | (simp_all; done) | (simp_all; omega) | skip
theorem vN (c : UInt8) : ∀ (s : aj) (k : Nat),(fK (fun b=>decide ((b.toNat : Int) = c.toNat)) k s).map (fun x=>(x.1 - k)) = (bP c s).map fun p=>p.1.length
 | [],k=>rfl
 | b :: s,k=>by
  have hb : ((b.toNat : Int) = c.toNat)↔b = c:=⟨fun h=>UInt8.toNat_inj.1 (by omega),fun h=>by subst h; rfl⟩
  unfold fK bP
  by_cases h : b = c
  ·simp [hb,h]
  ·have ih:=vN c s (k + 1)
   simp only [hb,h,decide_false,Bool.false_eq_true,if_false]
   cases hf : fK (fun b=>decide ((b.toNat : Int) = c.toNat)) (k + 1) s with
   | none =>
    rw [hf] at ih
    cases hc : bP c s with
    | none=>rfl
    | some p=>rw [hc] at ih; simp at ih
   | some x =>
    rw [hf] at ih
    cases hc : bP c s with
    | none=>rw [hc] at ih; simp at ih
    | some p =>
     rw [hc] at ih
     have hx:=(wC (i:=x.1) (b:=x.2) hf).1
     simp at ih ⊢
     omega
theorem pI {c : UInt8} : ∀ {s : aj} {p : aj×aj},bP c s = some p→s = p.1 ++ c :: p.2
 | [],p,h=>by cases h
 | b :: s,p,h=>by
  unfold bP at h
  split at h
  ·rename_i hb
   cases h
   simp [hb]
  ·cases hc : bP c s with
   | none=>rw [hc] at h; cases h
   | some q =>
    rw [hc] at h
    cases h
    simp [← pI hc]
theorem zW (s : aj) (k : Nat) (hk : k≤s.length) (hb : s.length≤1073741824) : bQ (aA (ev LI TT) (aP TT) n7) [(0,.str ⟨s.toArray⟩),(1,.int .i64 (k : Nat)),(6,.int .i64 ((k + 0 : Nat) : Int))] = (fK (fun b=>decide ((b.toNat : Int) = (10 : UInt8).toNat)) 0 (s.drop k)).elim (some (.exit 0,[(0,.str ⟨s.toArray⟩),(1,.int .i64 (k : Nat)),(6,.int .i64 ((k + (s.drop k).length : Nat) : Int)),(11,.bool false)])) fun x=>some (.ret,(fun (i : Nat) b=>[(4,.str ⟨((s.drop k).take i).toArray⟩),(5,.int .i64 ((k + i + 1 : Nat) : Int))]) x.1 x.2):=by
 refine Ds (f:=aA (ev LI TT) (aP TT) n7) (s.drop k) (fun i=>[(0,.str ⟨s.toArray⟩),(1,.int .i64 (k : Nat)),(6,.int .i64 ((k + i : Nat) : Int))]) (fun b=>decide ((b.toNat : Int) = (10 : UInt8).toNat)) (fun (i : Nat) b=>[(4,.str ⟨((s.drop k).take i).toArray⟩),(5,.int .i64 ((k + i + 1 : Nat) : Int))]) _ (fun i b hi hl=>?_) ?_
 ·have hw:=fE i (by simp at hl; omega)
  obtain ⟨_,rfl⟩:=List.getElem?_eq_some_iff.1 hi
  simp at hl
  have h1 : k + i < s.length:=by omega
  have h2:=fE (k + i) (by omega)
  have h3 : ((k + i : Nat) : Int) < s.length:=by omega
  have h4 : (10 : UInt8).toNat = 10:=rfl
  have h5 : (k : Int)≤((k + i : Nat) : Int):=by omega
  have h6 : ((k + i : Nat) : Int)≤s.length:=by omega
  simp at h2 h3 h5 h6
  have h7 : ((k : Int) + (i : Int)).toNat = k + i:=by omega
  have h8 : (0 : Int)≤(k : Int) + (i : Int):=by omega
  have h9 : (s.take (k + i)).drop k = (s.drop k).take i:=by rw [List.drop_take]; congr 1; omega
  simp -implicitDefEqProofs [n7,uD,hl,hw,h1,h2,h3,h4,h5,h6,h7,h8,h9,Lib.extract_mk]
  all_goals (repeat' split) <;> first | rfl | omega | (simp_all; done) | (simp_all; omega) | skip
 ·have hz : k + (s.length - k) = s.length:=by omega
  have ck : (k : Int) + ((s.length - k : Nat) : Int) = s.length:=by omega
  simp -implicitDefEqProofs [n7,uD,hz,ck]
def tS (s : aj) (k : Nat) : Int:=match bP 10 (s.drop k) with
 | some p=>((s.length - p.2.length : Nat) : Int)
 | none=>-1
def tT (s : aj) (k : Nat) : aj:=match bP 10 (s.drop k) with
 | some p=>p.1
 | none=>[]
theorem AB (s : aj) (k : Nat) (hk : k≤s.length) (hb : s.length≤1073741824) : ev LI TT 39 [.str ⟨s.toArray⟩,.int .i64 (k : Int)] = some (.ai [.str ⟨(tT s k).toArray⟩,.int .i64 (tS s k)],[.dead,.dead]):=by
 rw [bD (b:=n8) (rs:=[.t 4,.t 5]) (n:=2) rfl rfl]
 have hc:=vN 10 (s.drop k) 0
 unfold tT tS
 have u1:=zW  s k hk hb
 try simp at u1
 cases g : fK (fun b : UInt8=>decide ((b.toNat : Int) = 10)) 0 (s.drop k) with
 | none =>
  have h4 : (10 : UInt8).toNat = 10:=rfl
  rw [h4] at hc
  simp only [Int.cast_ofNat_Int] at hc
  rw [g] at u1 hc
  cases hq : bP 10 (s.drop k) with
  | some p=>rw [hq] at hc; simp at hc
  | none=>simp at u1; simp -implicitDefEqProofs [n8,u1]
 | some x =>
 have h4 : (10 : UInt8).toNat = 10:=rfl
 rw [h4] at hc
 simp only [Int.cast_ofNat_Int] at hc
 rw [g] at u1 hc
 cases hq : bP 10 (s.drop k) with
 | none=>rw [hq] at hc; simp at hc
 | some p =>
 rw [hq] at hc
 have he:=pI hq
 have hx : x.1 = p.1.length:=by simpa using hc
 have ht : (s.drop k).take x.1 = p.1:=by rw [hx,he]; simp
 have hl:=congrArg List.length he
 simp at hl
 have hn : ((s.length - p.2.length : Nat) : Int) = ((k + x.1 + 1 : Nat) : Int):=by omega
 simp only [Option.elim,ht] at u1
 try simp at u1
 simp -implicitDefEqProofs [n8,u1,hn]
 all_goals (repeat' split) <;> first | rfl | omega | (simp_all; done) | (simp_all; omega) | skip
theorem vM {s : aj} {p : aj×aj} (h : bP 10 s = some p) : p.2.length < s.length∧s.drop (s.length - p.2.length) = p.2∧p.1.length < s.length:=by
 have he:=pI h
 have hl:=congrArg List.length he
 simp at hl
 refine ⟨by omega,?_,by omega⟩
 have : s.length - p.2.length = (p.1 ++ [10]).length:=by simp; omega
 rw [this,he]
 have e : p.1 ++ 10 :: p.2 = (p.1 ++ [10]) ++ p.2:=by simp
 rw [e,List.drop_left]
end M
namespace M
open Go
def cm (s : aj) : Int×aj×Bool:=match bP 10 s with
 | some (l,b)=>match br 32 l with
  | [_,w,_]=>if bY ((bH w).getD 0 : Nat) b = s then ((((bH w).getD 0 : Nat) : Int),b,true) else (0,[],false)
  | _=>(0,[],false)
 | none=>(0,[],false)
theorem AA (s : aj) (hb : s.length≤1073741824) : ev LI TT 13 [.str ⟨s.toArray⟩] = some (.ai [.int .i64 ((cm s).1),.str ⟨((cm s).2.1).toArray⟩,.bool ((cm s).2.2)],[.dead]):=by
 rw [bD (b:=hO) (rs:=[.t 2,.t 3,.t 4]) (n:=1) rfl rfl]
 have u1:=AB s 0 (by omega) hb
 simp only [tT,tS,List.drop_zero] at u1
 unfold cm
 cases hc : bP 10 s with
 | none =>
  rw [hc] at u1
  have u2:=vr [] (by simp)
  simp at u1 u2
  simp -implicitDefEqProofs [hO,u1,u2]
 | some p =>
 obtain ⟨l,b⟩:=p
 rw [hc] at u1
 have hd:=vM hc
 simp only at hd
 obtain ⟨d1,d2,d3⟩:=hd
 have u2:=vr l (by omega)
 have d4 : ¬ (((s.length - b.length : Nat) : Int) < 0):=by omega
 have d5 : s.length - b.length≤s.length:=by omega
 have d6 : ¬ s = []:=by rintro rfl; simp at d1
 have hm:=ze 32 l
 simp only at u1
 generalize s.length - b.length = e at u1 d2 d4 d5
 have d7 : (e : Int)≤s.length:=by omega
 rcases hw : br 32 l with _ | ⟨w0,_ | ⟨w1,_ | ⟨w2,_ | ⟨w3,ws⟩⟩⟩⟩
 ·exact absurd hw (ru 32 l)
 ·rw [hw] at u2; simp at u1 u2; simp -implicitDefEqProofs [hO,u1,u2,hw,d4]
 ·rw [hw] at u2; simp at u1 u2; simp -implicitDefEqProofs [hO,u1,u2,hw,d4]
 rotate_left
 ·rw [hw] at u2
  have hn : ¬ ((ws.length : Int) + 1 + 1 + 1 + 1 = 3):=by omega
  simp at u1 u2; simp -implicitDefEqProofs [hO,u1,u2,hw,d4,hn]
 have hw1:=hm w1 (by rw [hw]; simp)
 rw [hw] at u2
 have u3:=Ay w1 (by omega)
 have u4:=sg ((bH w1).getD 0 : Nat) b (by omega)
 simp at u1 u2 u3
 obtain ⟨n,hn⟩ : ∃ n,(bH w1).getD 0 = n:=⟨_,rfl⟩
 rw [hn] at u3 u4
 have d8 : s.length - e = b.length:=by rw [← d2]; simp
 by_cases g : bY (n : Int) b = s
 ·simp -implicitDefEqProofs [hO,u1,u2,hw,u3,u4,d2,d4,d5,d6,d7,d8,hn,eq_true g,Lib.extract_mk]
 simp -implicitDefEqProofs [hO,u1,u2,hw,u3,u4,d2,d4,d5,d6,d7,d8,hn,eq_false g,Lib.extract_mk]
 all_goals (repeat' split) <;> first | rfl | omega | (simp_all; done) | (simp_all; omega) | skip
theorem r8 (s : aj) (hb : s.length≤1073741824) : ev LI TT 10 [.str ⟨s.toArray⟩] = some (.ai [.int .i64 ((cm s).1),.str ⟨((cm s).2.1).toArray⟩,.bool ((cm s).2.2)],[.dead]):=by
 rw [bD (b:=fR) (rs:=[.t 2,.t 3,.t 4]) (n:=1) rfl rfl]
 have u1:=AF s [10] (by omega)
 have ec:=vO 10 s
 unfold cm
 cases hc : bP 10 s with
 | none =>
  rw [hc] at ec
  have u2:=vt s 32 (by omega)
  simp only at ec
  rw [ec] at u1
  simp at u1 u2
  simp -implicitDefEqProofs [fR,u1,u2]
 | some p =>
 obtain ⟨l,b⟩:=p
 rw [hc] at ec
 simp only at ec
 rw [ec] at u1
 have hd:=vM hc
 simp only at hd
 obtain ⟨d1,d2,d3⟩:=hd
 have u2:=vt l 32 (by omega)
 have d6 : ¬ s = []:=by rintro rfl; simp at d1
 have hm:=ze 32 l
 simp only at u1
 rcases hw : br 32 l with _ | ⟨w0,_ | ⟨w1,_ | ⟨w2,_ | ⟨w3,ws⟩⟩⟩⟩
 ·exact absurd hw (ru 32 l)
 ·rw [hw] at u2; simp at u1 u2; simp -implicitDefEqProofs [fR,u1,u2,hw]
 ·rw [hw] at u2; simp at u1 u2; simp -implicitDefEqProofs [fR,u1,u2,hw]
 rotate_left
 ·rw [hw] at u2
  have hn : ¬ ((ws.length : Int) + 1 + 1 + 1 + 1 = 3):=by omega
  simp at u1 u2; simp -implicitDefEqProofs [fR,u1,u2,hw,hn]
 have hw1:=hm w1 (by rw [hw]; simp)
 rw [hw] at u2
 have u3:=Aw w1 (by omega)
 cases hq : bH w1 with
 | none =>
  rw [hq] at u3
  have g : ¬ bY ((0 : Nat) : Int) b = s:=by rw [show bY ((0 : Nat) : Int) b = [] by unfold bY; rw [if_neg (by omega)]]; exact fun h=>d6 h.symm
  simp at u1 u2 u3 g
  simp -implicitDefEqProofs [fR,u1,u2,hw,hq,u3,eq_false g]
 | some n =>
 rw [hq] at u3
 have u4:=r9 (n : Int) b (by omega)
 simp at u1 u2 u3
 by_cases h0 : n = 0
 ·subst h0
  have g : ¬ bY ((0 : Nat) : Int) b = s:=by rw [show bY ((0 : Nat) : Int) b = [] by unfold bY; rw [if_neg (by omega)]]; exact fun h=>d6 h.symm
  simp at g
  simp -implicitDefEqProofs [fR,u1,u2,hw,hq,u3,eq_false g]
 by_cases g : bY (n : Int) b = s
 ·simp -implicitDefEqProofs [fR,u1,u2,hw,hq,u3,u4,h0,eq_true g]
 simp -implicitDefEqProofs [fR,u1,u2,hw,hq,u3,u4,h0,eq_false g]
 all_goals (repeat' split) <;> first | rfl | omega | (simp_all; done) | (simp_all; omega) | skip
end M
namespace M
open Go
def cA (s : aj) : Nat:=(s.map UInt8.toNat).sum
theorem zn : ∀ (s : aj) (i : Nat) (g : Nat×Nat),g.1 < 65521→(foldI (fun _ g b=>cQ g b) i s g).1 = (g.1 + cA s) % 65521
 | [],i,g,h=>by simp [foldI,cA]; omega
 | b :: s,i,g,h=>by
  rw [foldI,zn s (i + 1) _ (oL g b).1]
  simp only [cQ,cA,List.map_cons,List.sum_cons]
  omega
theorem Fv (s : aj) : (cW s).1 = (1 + cA s) % 65521:=zn s 0 (1,0) (by decide)
theorem zo (s : aj) : b7 s % 65521 = (1 + cA s) % 65521:=by
 have h:=rD s
 unfold b7
 rw [← Fv]
 omega
theorem AZ {m n : Nat} (h : ay m = ay n) : m = n:=by
 have:=congrArg e9 h
 rwa [rJ,rJ] at this
theorem zd {x y r r' : aj} (hx : ∀ b∈x,b≠32) (hy : ∀ b∈y,b≠32) (h : x ++ 32 :: r = y ++ 32 :: r') : x = y∧r = r':=by
 induction x generalizing y with
 | nil =>
  cases y with
  | nil=>simpa using h
  | cons b y=>exact absurd (List.cons.inj h).1.symm (hy b (List.mem_cons_self ..))
 | cons a x ih =>
  cases y with
  | nil=>exact absurd (List.cons.inj h).1 (hx a (List.mem_cons_self ..))
  | cons b y =>
   obtain ⟨rfl,h2⟩:=List.cons.inj h
   obtain ⟨rfl,rfl⟩:=ih (fun c hc=>hx c (List.mem_cons_of_mem _ hc)) (fun c hc=>hy c (List.mem_cons_of_mem _ hc)) h2
   exact ⟨rfl,rfl⟩
theorem sC (n : Nat) : ∀ b∈ay n,48≤b.toNat∧b.toNat≤57:=by
 intro b hb
 have:=jv.1 (sA n) b hb
 simpa [cT] using this
theorem zG {p : UInt8→Prop} (h : ∀ n : Fin 256,p (UInt8.ofFin n)) (b : UInt8) : p b:=by
 have:=h b.toFin
 simpa using this
theorem jD {b : UInt8} (h : 48≤b.toNat∧b.toNat≤57) : b≠32∧b ^^^ 1≠32∧b≠33:=by
 revert h
 exact zG (p:=fun b=>48≤b.toNat∧b.toNat≤57→b≠32∧b ^^^ 1≠32∧b≠33) (by decide +kernel) b
theorem wI (b : UInt8) : b ^^^ 1≠b∧((b ^^^ 1).toNat = b.toNat + 1∨(b ^^^ 1).toNat + 1 = b.toNat) :=
 zG (p:=fun b=>b ^^^ 1≠b∧((b ^^^ 1).toNat = b.toNat + 1∨(b ^^^ 1).toNat + 1 = b.toNat)) (by decide +kernel) b
def bT (s : aj) (i : Nat) : aj:=s.take i ++ (s.getD i 0 ^^^ 1) :: s.drop (i + 1)
theorem Be (x r : aj) (i : Nat) (h : i < x.length) : bT (x ++ r) i = bT x i ++ r:=by
 unfold bT
 rw [List.take_append_of_le_length (by omega),List.drop_append_of_le_length (by omega)]
 simp [List.getD_eq_getElem?_getD,List.getElem?_append_left h]
theorem wG (x r : aj) (i : Nat) : bT (x ++ r) (x.length + i) = x ++ bT r i:=by
 unfold bT
 rw [List.take_append,List.drop_append,List.take_of_length_le (by omega : x.length≤x.length + i),List.drop_of_length_le (by omega : x.length≤x.length + i + 1)]
 have e1 : x.length + i - x.length = i:=by omega
 have e2 : x.length + i + 1 - x.length = i + 1:=by omega
 rw [e1,e2]
 simp [List.getD_eq_getElem?_getD,List.getElem?_append_right]
theorem wH (s : aj) (i : Nat) (h : i < s.length) : (bT s i).length = s.length:=by
 unfold bT
 simp
 omega
theorem Bf (s : aj) (i : Nat) (h : i < s.length) : bT s i≠s:=by
 intro he
 have h1 : (bT s i)[i]? = some (s[i] ^^^ 1):=by
  unfold bT
  rw [List.getElem?_append_right (by simp; omega)]
  simp [List.getD_eq_getElem?_getD,h,Nat.min_eq_left (Nat.le_of_lt h)]
 rw [he,List.getElem?_eq_getElem h] at h1
 exact (wI s[i]).1 (Option.some.inj h1).symm
theorem Bh (s : aj) (i : Nat) (h : i < s.length) : cA (bT s i) = cA s + 1∨cA (bT s i) + 1 = cA s:=by
 have h1 : s = s.take i ++ s[i] :: s.drop (i + 1):=by rw [← List.drop_eq_getElem_cons h,List.take_append_drop]
 have h2 : cA s = cA (s.take i) + (s[i].toNat + cA (s.drop (i + 1))):=by
  have h4:=congrArg cA h1
  have h5 : cA (s.take i ++ s[i] :: s.drop (i + 1)) = cA (s.take i) + (s[i].toNat + cA (s.drop (i + 1))):=by simp only [cA,List.map_append,List.sum_append,List.map_cons,List.sum_cons]
  omega
 have h3 : cA (bT s i) = cA (s.take i) + ((s[i] ^^^ 1).toNat + cA (s.drop (i + 1))):=by
  unfold bT
  simp [cA,List.getD_eq_getElem?_getD,h]
 have:=(wI s[i]).2
 omega
theorem yN (n : Nat) (b : aj) : bZ n b≠[]:=by unfold bZ; simp
theorem EZ (n n' : Nat) (b b' : aj) (i : Nat) (hi : i < (bZ n b).length) (h : bZ n' b' = bT (bZ n b) i) : False:=by
 unfold bZ at h hi
 generalize hR : ay n ++ 32 :: (ay b.length ++ 10 :: b) = R at h hi
 generalize Is : ay n' ++ 32 :: (ay b'.length ++ 10 :: b') = R' at h
 have hx:=sC (b7 R)
 have hy:=sC (b7 R')
 generalize hX : ay (b7 R) = x at h hi hx
 generalize hY : ay (b7 R') = y at h hy
 have xR : ∀ c∈y,c≠32:=fun c hc=>(jD (hy c hc)).1
 rcases Nat.lt_trichotomy i x.length with h1 | h1 | h1
 ·rw [Be x _ i h1] at h
  have hfn : ∀ c∈bT x i,c≠32:=by
   intro c hc
   unfold bT at hc
   rcases List.mem_append.1 hc with hc | hc
   ·exact (jD (hx c (List.mem_of_mem_take hc))).1
   ·rcases List.mem_cons.1 hc with rfl | hc
    ·have hm : x.getD i 0∈x:=by rw [List.getD_eq_getElem?_getD,List.getElem?_eq_getElem h1]; exact List.getElem_mem h1
     exact (jD (hx _ hm)).2.1
    ·exact (jD (hx c (List.mem_of_mem_drop hc))).1
  obtain ⟨e1,e2⟩:=zd xR hfn h
  subst e2
  rw [hX] at hY
  exact Bf x i h1 (by rw [← e1,← hY])
 ·subst h1
  have:=wG x (32 :: R) 0
  rw [Nat.add_zero] at this
  rw [this] at h
  have e : bT (32 :: R) 0 = 33 :: R:=by
   show [] ++ ((32 : UInt8) ^^^ 1) :: R = 33 :: R
   rw [show ((32 : UInt8) ^^^ 1) = 33 by decide]
   rfl
  rw [e] at h
  have hL : (y ++ 32 :: R')[x.length]? = (x ++ 33 :: R)[x.length]?:=by rw [h]
  rw [List.getElem?_append_right (l₁:=x) (Nat.le_refl _),Nat.sub_self,List.getElem?_cons_zero] at hL
  rcases Nat.lt_trichotomy x.length y.length with g | g | g
  ·rw [List.getElem?_append_left g] at hL
   exact (jD (hy _ (List.mem_of_getElem? hL))).2.2 rfl
  ·rw [List.getElem?_append_right (by omega),g,Nat.sub_self,List.getElem?_cons_zero] at hL
   exact absurd (Option.some.inj hL) (by decide)
  ·have hM : (y ++ 32 :: R')[y.length]? = (x ++ 33 :: R)[y.length]?:=by rw [h]
   rw [List.getElem?_append_left (l₁:=x) g,List.getElem?_append_right (l₁:=y) (Nat.le_refl _),Nat.sub_self,List.getElem?_cons_zero] at hM
   exact (jD (hx _ (List.mem_of_getElem? hM.symm))).1 rfl
 ·obtain ⟨j,rfl⟩ : ∃ j,i = x.length + (j + 1):=⟨i - x.length - 1,by omega⟩
  rw [wG] at h
  have e : bT (32 :: R) (j + 1) = 32 :: bT R j:=by unfold bT; simp
  rw [e] at h
  have CX : ∀ c∈x,c≠32:=fun c hc=>(jD (hx c hc)).1
  obtain ⟨e1,e2⟩:=zd xR CX h
  have hj : j < R.length:=by simp at hi; omega
  have hs : b7 R' = b7 R:=AZ (by rw [hY,hX,e1])
  have m1:=zo R
  have m2:=zo R'
  rw [hs,e2] at m2
  have:=Bh R j hj
  omega
end M
set_option maxHeartbeats 4000000
namespace M
open Go
end M
set_option maxHeartbeats 4000000
namespace M
open Go
theorem vL : ∀ (p r : aj),(∀ b∈p,b≠10)→bP 10 (p ++ r) = (bP 10 r).map fun q=>(p ++ q.1,q.2)
 | [],r,_=>by simp
 | b :: p,r,h=>by
  rw [List.cons_append,bP,if_neg (h b (List.mem_cons_self ..)),vL p r fun x hx=>h x (List.mem_cons_of_mem _ hx)]
  cases bP 10 r <;> simp
theorem zg (w r : aj) (h : ∀ b∈w,b≠32) : br 32 (w ++ 32 :: r) = w :: br 32 r:=by
 rw [rq 32 w _ h]
 simp [br]
end M
namespace M
open Go
theorem yM {n : Int} {b s : aj} (h : bY n b = s) (hs : s≠[]) : ∃ m : Nat,n = m∧1≤m∧m≤100000∧b.length≤2000∧s = bZ m b:=by
 unfold bY at h
 split at h
 ·rename_i hc
  exact ⟨n.toNat,by omega,by omega,by omega,hc.2.2,h.symm⟩
 ·exact absurd h.symm hs
theorem kD (n : Nat) : ∀ c∈ay n,c≠32∧c≠10:=by
 intro c hc
 have:=sC n c hc
 constructor
 ·rintro rfl; revert this; decide
 ·rintro rfl; revert this; decide
theorem EX {m : Nat} {b : aj} (h1 : 1≤m) (h2 : m≤100000) (h3 : b.length≤2000) : cm (bZ m b) = ((m : Int),b,true):=by
 have e : bZ m b = (ay (b7 (ay m ++ 32 :: (ay b.length ++ 10 :: b))) ++ 32 :: (ay m ++ 32 :: ay b.length)) ++ 10 :: b:=by unfold bZ; simp
 have hP : ∀ c∈ay (b7 (ay m ++ 32 :: (ay b.length ++ 10 :: b))) ++ 32 :: (ay m ++ 32 :: ay b.length),c≠10:=by
  intro c hc
  simp only [List.mem_append,List.mem_cons] at hc
  rcases hc with hc | rfl | hc | rfl | hc
  ·exact (kD _ c hc).2
  ·decide
  ·exact (kD _ c hc).2
  ·decide
  ·exact (kD _ c hc).2
 have hc : bP 10 (bZ m b) = some (ay (b7 (ay m ++ 32 :: (ay b.length ++ 10 :: b))) ++ 32 :: (ay m ++ 32 :: ay b.length),b):=by
  rw [e,vL _ _ hP]
  simp [bP]
 have hsp : br 32 (ay (b7 (ay m ++ 32 :: (ay b.length ++ 10 :: b))) ++ 32 :: (ay m ++ 32 :: ay b.length)) = [ay (b7 (ay m ++ 32 :: (ay b.length ++ 10 :: b))),ay m,ay b.length]:=by
  rw [zg _ _ (fun c hc=>(kD _ c hc).1),zg _ _ (fun c hc=>(kD _ c hc).1),zf 32 _ (fun c hc=>(kD _ c hc).1)]
 have hn : bH (ay m) = some m:=jV.2 ⟨by omega,rfl⟩
 have hr : bY (m : Int) b = bZ m b:=by
  unfold bY
  rw [if_pos ⟨by omega,by omega,h3⟩]
  simp
 unfold cm
 rw [hc]
 simp only
 rw [hsp]
 simp only [hn,Option.getD_some,hr,if_true]
theorem yL {s : aj} (h : (cm s).2.2 = true) : bY (cm s).1 (cm s).2.1 = s:=by
 unfold cm at h ⊢
 cases hc : bP 10 s with
 | none=>rw [hc] at h; simp at h
 | some p =>
  rw [hc] at h
  simp only at h ⊢
  split at h
  ·split at h
   ·rename_i g; simp only [g,if_true]
   ·simp at h
  ·simp at h
theorem EW {m : Nat} {b : aj} {i : Nat} (hi : i < (bZ m b).length) : (cm (bT (bZ m b) i)).2.2 = false:=by
 cases h : (cm (bT (bZ m b) i)).2.2 with
 | false=>rfl
 | true =>
  exfalso
  have h1:=yL h
  have hne : bT (bZ m b) i≠[]:=by
   intro hz
   have:=congrArg List.length hz
   rw [wH _ _ hi,List.length_nil] at this
   omega
  obtain ⟨m',_,_,_,_,hs⟩:=yM h1 hne
  exact EZ m m' b _ i hi hs.symm
theorem yK {s : aj} (h : (cm s).2.2 = false) : cm s = (0,[],false):=by
 unfold cm at h ⊢
 cases hc : bP 10 s with
 | none=>rfl
 | some p =>
  rw [hc] at h
  simp only at h ⊢
  split at h
  ·split at h
   ·simp at h
   ·rename_i g; simp only [g,if_false]
  ·rfl
end M
namespace M
open Go
theorem rM (c : bg) : ∃ (x : Int) (c' : bg),ev LI TT 55 [.ptr .own (aO c)] = some (.int .i64 x,[.ptr .own (aO c')])∧0≤x∧x≤255:=by
 obtain ⟨code,i,h,hi,hl⟩:=c
 by_cases hlt : i < code.length
 ·have hw:=fE i (by omega)
  have H : ∃ (x h' : Int),ev LI TT 55 [.ptr .own [.row .sl 1 (code.map eU),.int .i64 i,.int .i64 h]] = some (.int .i64 x,[.ptr .own [.row .sl 1 (code.map eU),.int .i64 (i + 1),.int .i64 h']])∧0≤x∧x≤255:=by
   rw [bD (b:=lD) (rs:=[.t 2]) (n:=1) rfl rfl]
   simp -implicitDefEqProofs [lD,hlt,hw,vf]
   omega
  obtain ⟨x,h',e,b⟩:=H
  exact ⟨x,⟨code,i + 1,h',hlt,hl⟩,e,b⟩
 ·have H : ∃ (x h' : Int),ev LI TT 55 [.ptr .own [.row .sl 1 (code.map eU),.int .i64 i,.int .i64 h]] = some (.int .i64 x,[.ptr .own [.row .sl 1 (code.map eU),.int .i64 i,.int .i64 h']])∧0≤x∧x≤255:=by
   rw [bD (b:=lD) (rs:=[.t 2]) (n:=1) rfl rfl]
   simp -implicitDefEqProofs [lD,hlt,vf]
   omega
  obtain ⟨x,h',e,b⟩:=H
  exact ⟨x,⟨code,i,h',hi,hl⟩,e,b⟩
noncomputable def cK (c : bg) : Int:=(rM c).choose
noncomputable def bK (c : bg) : bg:=(rM c).choose_spec.choose
theorem mq (c : bg) : 0≤cK c∧cK c≤255:=(rM c).choose_spec.choose_spec.2
@[simp] theorem GM (c : bg) : ev LI TT 55 [.ptr .own (aO c)] = some (.int .i64 (cK c),[.ptr .own (aO (bK c))]):=(rM c).choose_spec.choose_spec.1
theorem zy (a n : Int) (ha : 0≤a) (hn : 0 < n) : 0≤a.tmod n∧a.tmod n < n:=by
 rw [Int.tmod_eq_emod_of_nonneg ha]
 exact ⟨Int.emod_nonneg _ (by omega),Int.emod_lt_of_pos _ hn⟩
theorem rL (c : bg) (n : Int) (hn : 0 < n) (hn' : n≤9223372036854775807) : ∃ (x : Int) (c' : bg),ev LI TT 29 [.ptr .own (aO c),.int .i64 n] = some (.int .i64 x,[.ptr .own (aO c'),.dead])∧0≤x∧x < n:=by
 rw [bD (b:=j7) (rs:=[.t 4]) (n:=2) rfl rfl]
 have h0 : ¬ n≤0:=by omega
 have h1 : ¬ n = 0:=by omega
 by_cases h : n≤256
 ·refine ⟨(cK c).tmod n,bK c,?_,zy _ _ (mq c).1 hn⟩
  simp -implicitDefEqProofs [j7,h,h0,h1]
 ·have b1:=mq c
  have b2:=mq (bK c)
  have b3:=mq (bK (bK c))
  have b4:=mq (bK (bK (bK c)))
  have w1:=bu (n:=cK c * 16777216) (by omega) (by omega)
  have w2:=bu (n:=cK (bK c) * 65536) (by omega) (by omega)
  have w3:=bu (n:=cK (bK (bK c)) * 256) (by omega) (by omega)
  have w4:=bu (n:=cK c * 16777216 + cK (bK c) * 65536) (by omega) (by omega)
  have w5:=bu (n:=cK c * 16777216 + cK (bK c) * 65536 + cK (bK (bK c)) * 256) (by omega) (by omega)
  have w6:=bu (n:=cK c * 16777216 + cK (bK c) * 65536 + cK (bK (bK c)) * 256 + cK (bK (bK (bK c)))) (by omega) (by omega)
  refine ⟨(cK c * 16777216 + cK (bK c) * 65536 + cK (bK (bK c)) * 256 + cK (bK (bK (bK c)))).tmod n,bK (bK (bK (bK c))),?_,zy _ _ (by omega) hn⟩
  simp -implicitDefEqProofs [j7,h,h0,h1,w1,w2,w3,w4,w5,w6]
theorem Gd (c : bg) (n : Int) (hn : n≤0) : ev LI TT 29 [.ptr .own (aO c),.int .i64 n] = some (.int .i64 0,[.ptr .own (aO c),.dead]):=by
 rw [bD (b:=j7) (rs:=[.t 4]) (n:=2) rfl rfl]
 simp -implicitDefEqProofs [j7,hn]
noncomputable def cJ (c : bg) (n : Int) : Int:=if h : 0 < n∧n≤9223372036854775807 then (rL c n h.1 h.2).choose else 0
noncomputable def bt (c : bg) (n : Int) : bg:=if h : 0 < n∧n≤9223372036854775807 then (rL c n h.1 h.2).choose_spec.choose else c
theorem fZ (c : bg) (n : Int) (h1 : 0 < n) (h2 : n≤9223372036854775807) : 0≤cJ c n∧cJ c n < n:=by
 unfold cJ
 rw [dif_pos ⟨h1,h2⟩]
 exact (rL c n h1 h2).choose_spec.choose_spec.2
theorem jw (c : bg) (n : Int) (h2 : n≤9223372036854775807) : ev LI TT 29 [.ptr .own (aO c),.int .i64 n] = some (.int .i64 (cJ c n),[.ptr .own (aO (bt c n)),.dead]):=by
 unfold cJ bt
 by_cases h1 : 0 < n
 ·rw [dif_pos ⟨h1,h2⟩,dif_pos ⟨h1,h2⟩]
  exact (rL c n h1 h2).choose_spec.choose_spec.1
 ·rw [dif_neg (fun h=>h1 h.1),dif_neg (fun h=>h1 h.1)]
  exact Gd c n (by omega)
theorem AD (c : bg) (n : Int) (h2 : n≤9223372036854775807) : ev LI TT 28 [.ptr .own (aO c),.int .i64 n] = some (.bool (decide (cJ c n = 0)),[.ptr .own (aO (bt c n)),.dead]):=by
 rw [bD (b:=q5) (rs:=[.t 4]) (n:=2) rfl rfl]
 simp -implicitDefEqProofs [q5,jw c n h2]
 all_goals (repeat' split) <;> first | rfl | omega | (simp_all; done) | (simp_all; omega) | skip
theorem vq (c : bg) (l : List aj) (h1 : 0 < l.length) (h2 : l.length≤9223372036854775807) : ev LI TT 54 [.ptr .own (aO c),.row .ak 1 (l.map eS)] = some (.str ⟨(l.getD (cJ c l.length).toNat []).toArray⟩,[.ptr .own (aO (bt c l.length)),.dead]):=by
 rw [bD (b:=q7) (rs:=[.t 4]) (n:=2) rfl rfl]
 have b:=fZ c l.length (by omega) (by omega)
 have b2 : (cJ c l.length).toNat < l.length:=by omega
 simp -implicitDefEqProofs [q7,jw c l.length (by omega),b,b2]
 all_goals (repeat' split) <;> first | rfl | omega | (simp_all; done) | (simp_all; omega) | skip
theorem AE (c : bg) (l : List Int) (h1 : 0 < l.length) (h2 : l.length≤9223372036854775807) : ev LI TT 30 [.ptr .own (aO c),.row .ak 1 (l.map eI)] = some (.int .i64 (l.getD (cJ c l.length).toNat 0),[.ptr .own (aO (bt c l.length)),.dead]):=by
 rw [bD (b:=q6) (rs:=[.t 4]) (n:=2) rfl rfl]
 have b:=fZ c l.length (by omega) (by omega)
 have b2 : (cJ c l.length).toNat < l.length:=by omega
 simp -implicitDefEqProofs [q6,jw c l.length (by omega),b,b2]
 all_goals (repeat' split) <;> first | rfl | omega | (simp_all; done) | (simp_all; omega) | skip
theorem zX (code : List UInt8) (hl : code.length≤1048576) (h : Int) : ∃ h' : Int,bQ (aA (ev LI TT) (aP TT) lE) [(0,.row .sl 1 (code.map eU)),(3,.int .i64 h),(4,.int .i64 0),(100000,.row .sl 1 (code.map eU))] = some (.exit 0,[(0,.row .sl 1 (code.map eU)),(3,.int .i64 h'),(4,.int .i64 (min code.length 4000 : Nat)),(15,.bool false),(100000,.row .sl 1 (code.map eU))]):=by
 refine Exists.elim (Dr (f:=aA (ev LI TT) (aP TT) lE) (min code.length 4000) (fun i (h : Int)=>[(0,.row .sl 1 (code.map eU)),(3,.int .i64 h),(4,.int .i64 i),(100000,.row .sl 1 (code.map eU))]) (fun _ _=>True) (fun h'=>[(0,.row .sl 1 (code.map eU)),(3,.int .i64 h'),(4,.int .i64 (min code.length 4000 : Nat)),(15,.bool false),(100000,.row .sl 1 (code.map eU))]) h trivial (fun i g hi _=>?_) (fun g _=>?_)) fun g h=>⟨g,h.2⟩
 ·have h1 : i < code.length:=by omega
  have h2 : (i : Int) < 4000:=by omega
  have hw:=fE i (by omega)
  simp -implicitDefEqProofs [lE,qY,h1,h2,hw]
 ·by_cases h1 : code.length≤4000
  ·have : min code.length 4000 = code.length:=by omega
   rw [this]
   simp -implicitDefEqProofs [lE,qY]
  ·have : min code.length 4000 = 4000:=by omega
   rw [this]
   have h2 : 4000 < code.length:=by omega
   have h3 : (4000 : Int) < code.length:=by omega
   simp -implicitDefEqProofs [lE,qY,h2,h3]
theorem uT (code : List UInt8) (hl : code.length≤1048576) : ∃ c : bg,ev LI TT 26 [.row .sl 1 (code.map eU)] = some (.ptr .own (aO c),[.dead]):=by
 have hw:=bu (n:=18850 + code.length) (by omega) (by omega)
 obtain ⟨h',e⟩:=zX code hl (18850 + code.length)
 refine ⟨⟨code,0,h',Nat.zero_le _,by omega⟩,?_⟩
 rw [bD (b:=qZ) (rs:=[.t 2]) (n:=1) rfl rfl]
 simp -implicitDefEqProofs [qZ,hw,e,aO,nM]
theorem Ax (code : List UInt8) : ev LI TT 6 [.row .ak 1 (code.map eU)] = some (.bool (decide (1048576 < code.length)),[.dead]):=by
 rw [bD (b:=qA) (rs:=[.t 2]) (n:=1) rfl rfl]
 simp -implicitDefEqProofs [qA]
 omega
theorem Gf (c : bg) (s : aj) (bits : List aj) (hb : s.length≤1000000) (h0 : 0 < bits.length) (h1 : bits.length≤100) (Cg : ∀ b∈bits,b.length≤1000) : ∃ (c' : bg) (t : aj),t.length≤s.length + 1000∧ev LI TT 38 [.ptr .own (aO c),.str ⟨s.toArray⟩,.row .ak 1 (bits.map eS)] = some (.str ⟨t.toArray⟩,[.ptr .own (aO c'),.dead,.dead]):=by
 have u1:=jw c (s.length + 1) (by omega)
 have b1:=fZ c (s.length + 1) (by omega) (by omega)
 obtain ⟨a,ha⟩ : ∃ a : Nat,cJ c (s.length + 1) = a:=⟨(cJ c (s.length + 1)).toNat,by omega⟩
 have u2:=jw (bt c (s.length + 1)) 5 (by omega)
 have b2:=fZ (bt c (s.length + 1)) 5 (by omega) (by omega)
 have u3:=vq (bt (bt c (s.length + 1)) 5) bits h0 (by omega)
 have b3:=fZ (bt (bt c (s.length + 1)) 5) bits.length (by omega) (by omega)
 have hw:=fE s.length (by omega)
 rw [ha] at u1 b1
 generalize hx : bits.getD (cJ (bt (bt c (s.length + 1)) 5) bits.length).toNat [] = x at u3
 have hxl : x.length≤1000:=by
  rw [← hx]
  have hlt : (cJ (bt (bt c (s.length + 1)) 5) bits.length).toNat < bits.length:=by omega
  rw [List.getD_eq_getElem?_getD,List.getElem?_eq_getElem hlt]
  exact Cg _ (List.getElem_mem hlt)
 have ka : (a : Int)≤s.length:=by omega
 have ka' : a≤s.length:=by omega
 have Dl : a + x.length≤9223372036854775807:=by omega
 have Dm : a + x.length + (s.length - a)≤9223372036854775807:=by omega
 try simp at u1
 try simp at u2
 try simp at u3
 by_cases g0 : cJ (bt c (s.length + 1)) 5 = 0
 ·refine ⟨bt (bt c (s.length + 1)) 5,s.take a,by simp; omega,?_⟩
  rw [bD (b:=jg) (rs:=[.t 6]) (n:=3) rfl rfl]
  rw [g0] at u2
  simp -implicitDefEqProofs [jg,oa,lF,od,ow,oC,oD,oE,oF,lR,oG,ob,oc,lG,lH,lI,lJ,lK,j8,lM,lN,lO,og,oh,om,oo,oq,ot,lP,ou,ov,ox,oy,lQ,oz,oA,oB,u1,u2,hw,ka,ka',Lib.extract_mk]
 by_cases g1 : cJ (bt c (s.length + 1)) 5 = 1
 ·refine ⟨bt (bt (bt c (s.length + 1)) 5) bits.length,s.take a ++ x ++ s.drop a,by simp; omega,?_⟩
  rw [bD (b:=jg) (rs:=[.t 6]) (n:=3) rfl rfl]
  rw [g1] at u2
  simp -implicitDefEqProofs [jg,oa,lF,od,ow,oC,oD,oE,oF,lR,oG,ob,oc,lG,lH,lI,lJ,lK,j8,lM,lN,lO,og,oh,om,oo,oq,ot,lP,ou,ov,ox,oy,lQ,oz,oA,oB,u1,u2,u3,hw,ka,ka',Lib.extract_mk,gD,Dl,Dm]
  exact List.take_of_length_le (by simp)
 ·refine ⟨bt (bt c (s.length + 1)) 5,s,by omega,?_⟩
  rw [bD (b:=jg) (rs:=[.t 6]) (n:=3) rfl rfl]
  simp -implicitDefEqProofs [jg,oa,lF,od,ow,oC,oD,oE,oF,lR,oG,ob,oc,lG,lH,lI,lJ,lK,j8,lM,lN,lO,og,oh,om,oo,oq,ot,lP,ou,ov,ox,oy,lQ,oz,oA,oB,u1,u2,hw,g0,g1]
end M
set_option maxHeartbeats 4000000
namespace M
open Go
theorem rK (c : bg) (m : Int) (h1 : 0 < m) (h2 : m≤9223372036854775807) : ∃ (c' : bg) (n : Int),0≤n∧n < m∧ev LI TT 29 [.ptr .own (aO c),.int .i64 m] = some (.int .i64 n,[.ptr .own (aO c'),.dead]) :=
 ⟨_,_,(fZ c m h1 h2).1,(fZ c m h1 h2).2,jw c m h2⟩
theorem Ge (c : bg) (m : Int) (h2 : m≤9223372036854775807) : ∃ (c' : bg) (b : Bool),ev LI TT 28 [.ptr .own (aO c),.int .i64 m] = some (.bool b,[.ptr .own (aO c'),.dead]) :=
 ⟨_,_,AD c m h2⟩
theorem zM (c : bg) (l : List Int) (h1 : 0 < l.length) (h2 : l.length≤1000) : ∃ (c' : bg) (s : Int),s∈l∧ev LI TT 30 [.ptr .own (aO c),.row .ak 1 (l.map eI)] = some (.int .i64 s,[.ptr .own (aO c'),.dead]):=by
 refine ⟨_,_,?_,AE c l h1 (by omega)⟩
 have b:=fZ c l.length (by omega) (by omega)
 rw [List.getD_eq_getElem?_getD,List.getElem?_eq_getElem (by omega)]
 exact List.getElem_mem _
end M
set_option maxHeartbeats 4000000
namespace M
open Go
def oO : List aj:=[[32],[44],[97],[90],[55],[45],[61],[120],[58],[1],[64],[91]]
theorem FC (k : Nat) (h : k < 12) : ∃ b,oO.getD k [] = [b]:=by
 have : k = 0∨k = 1∨k = 2∨k = 3∨k = 4∨k = 5∨k = 6∨k = 7∨k = 8∨k = 9∨k = 10∨k = 11:=by omega
 rcases this with rfl | rfl | rfl | rfl | rfl | rfl | rfl | rfl | rfl | rfl | rfl | rfl <;> exact ⟨_,rfl⟩
theorem uS (c : bg) : ∃ (c' : bg) (t : aj),t.length≤100∧ev LI TT 27 [.ptr .own (aO c)] = some (.str ⟨t.toArray⟩,[.ptr .own (aO c')]):=by
 obtain ⟨⟨⟨c',i⟩,out⟩,⟨hs,hi⟩,e⟩:=tV (f:=aA (ev LI TT) (aP TT) qV)
  (fun (g : (bg×Nat)×aj)=>[(0,.au 100000 [] 0 0),(3,.row .own 1 (g.2.map eU)),(4,.int .i64 g.1.2),(100000,.ptr .own (aO g.1.1))])
  (fun g=>200 - g.1.2) (fun g=>g.2.length = g.1.2∧g.1.2≤20)
  (fun g=>[(0,.au 100000 [] 0 0),(3,.row .own 1 (g.2.map eU)),(4,.int .i64 g.1.2),(9,.bool false),(100000,.ptr .own (aO g.1.1))])
  (fun g hg=>by
   obtain ⟨⟨c,i⟩,out⟩:=g
   obtain ⟨h1,h2⟩:=hg
   simp only at h1 h2
   have b:=fZ c 14 (by omega) (by omega)
   have e1:=jw c 14 (by omega)
   obtain ⟨v,hv⟩ : ∃ v,cJ c 14 = v:=⟨_,rfl⟩
   rw [hv] at e1 b
   have e2:=vq (bt c 14) oO (by decide) (by decide)
   have b2:=fZ (bt c 14) 12 (by omega) (by omega)
   obtain ⟨x,hx⟩:=FC (cJ (bt c 14) 12).toNat (by omega)
   have e3 : (cJ (bt c 14) oO.length) = cJ (bt c 14) 12:=rfl
   have e4 : (bt (bt c 14) oO.length) = bt (bt c 14) 12:=rfl
   rw [e3,e4,hx] at e2
   simp [oO] at e2
   by_cases h : (i : Int) < v
   ·right
    have hw:=fE i (by omega)
    refine ⟨((bt (bt c 14) 12,i + 1),out ++ [x]),⟨by simp [h1],by simp only; omega⟩,by simp only; omega,?_⟩
    simp -implicitDefEqProofs [qV,uF,e1,e2,h,hw,ia,h1,(by omega : i + 1≤140737488355328)]
   ·left
    refine ⟨((bt c 14,i),out),⟨h1,h2⟩,?_⟩
    simp -implicitDefEqProofs [qV,uF,e1,h])
  ((c,0),[]) ⟨rfl,by simp⟩
 refine ⟨c',out,by simp only at hs hi; omega,?_⟩
 rw [bD (b:=qW) (rs:=[.t 2]) (n:=1) rfl rfl]
 have hu : gE (out.map eU) = some out:=uO out
 simp only at hs hi
 simp at e
 simp -implicitDefEqProofs [qW,e,hu,(by omega : out.length≤9223372036854775807)]
theorem Ga (code : List UInt8) (hl : code.length≤1048576) : ∃ (s : aj),s.length≤1000000∧∃ ps,ev LI TT 12 [.row .sl 1 (code.map eU)] = some (.str ⟨s.toArray⟩,ps):=by
 obtain ⟨c,hc⟩:=uT code hl
 obtain ⟨c1,n,h0,h1,u1⟩:=rK c 300 (by omega) (by omega)
 obtain ⟨c2,t,ht,u2⟩:=uS c1
 have hw : IntKind.i64.wrap (1 + n) = 1 + n:=bu (by omega) (by omega)
 have u3:=sg (1 + n) t (by omega)
 have hr : (bY (1 + n) t).length≤3000:=by
  unfold bY
  split
  ·have l1:=dZ 5 (1 + n).toNat (by omega)
   have l2:=dZ 5 t.length (by omega)
   unfold bZ
   have l3:=dZ 17 (b7 (ay (1 + n).toNat ++ 32 :: (ay t.length ++ 10 :: t))) (Nat.lt_trans (lU _) (by decide))
   simp
   omega
  ·simp
 obtain ⟨c3,s,hs,u4⟩:=Gf c2 (bY (1 + n) t) [[48],[32],[10],[120],[49]] (by omega) (by simp) (by simp) (by simp)
 try simp at u2
 try simp at u3
 try simp at u4
 refine ⟨s,by omega,?_⟩
 rw [bD (b:=qP) (rs:=[.t 2]) (n:=1) rfl rfl]
 simp -implicitDefEqProofs [qP,hc,u1,u2,u3,u4,hw,lT,jh,jQ]
end M
set_option maxHeartbeats 4000000
namespace M
open Go
theorem Dq {f : af→aX} {s s' : af} (h : f s = f s') : bQ f s = bQ f s':=by rw [ey,h,← ey]
def uL : aj:=[48,49,50,51,52,53,54,55,56,57]
theorem Gb (code : List UInt8) (hl : code.length≤1048576) : ∃ (n : Int) (s : aj),bI n∧s.length≤3000∧∃ ps,ev LI TT 7 [.row .sl 1 (code.map eU)] = some (.ai [.int .i64 n,.str ⟨s.toArray⟩],ps):=by
 obtain ⟨c,hc⟩:=uT code hl
 obtain ⟨c1,t,ht,u1⟩:=uS c
 obtain ⟨c2,b,u2⟩:=Ge c1 20 (by omega)
 have h10 : (⟨#[48,49,50,51,52,53,54,55,56,57]⟩ : ByteArray) = ⟨uL.toArray⟩:=rfl
 have l10 : uL.length = 10:=rfl
 cases b
 ·obtain ⟨c4,n,hn,u4⟩:=zM c2 [1,2,77,100000,100001,0,-1] (by simp) (by simp)
  simp at u4
  refine ⟨n,t,(by unfold bI; simp at hn; omega),by omega,?_⟩
  rw [bD (b:=lA) (rs:=[.t 2,.t 3]) (n:=1) rfl rfl]
  simp -implicitDefEqProofs [lA,hc,u1,u2,u4,lT,jh,jQ]
 ·obtain ⟨⟨c3,s⟩,hs,e⟩:=tV (f:=aA (ev LI TT) (aP TT) je)
   (fun (g : bg×aj)=>[(4,.au 7 [] 0 0),(5,.str ⟨g.2.toArray⟩),(7,.ptr .own (aO g.1))])
   (fun g=>3000 - g.2.length) (fun g=>g.2.length≤2020)
   (fun g=>[(4,.au 7 [] 0 0),(5,.str ⟨g.2.toArray⟩),(7,.ptr .own (aO g.1)),(17,.bool false)])
   (fun g hg=>by
    obtain ⟨c,s⟩:=g
    simp only at hg
    obtain ⟨c',v,h0,h1,v1⟩:=rK c 2 (by omega) (by omega)
    have hw : IntKind.i64.wrap (2000 + v) = 2000 + v:=bu (by omega) (by omega)
    by_cases h : (s.length : Int) < 2000 + v
    ·right
     refine ⟨(c',s ++ uL),by simp [l10]; omega,by simp [l10]; omega,?_⟩
     have hx : s.length + 10≤9223372036854775807:=by omega
     simp -implicitDefEqProofs [je,n5,v1,hw,h,h10,gD,l10,hx]
    ·left
     refine ⟨(c',s),hg,?_⟩
     simp -implicitDefEqProofs [je,n5,v1,hw,h])
   (c2,t) (by simp only; omega)
  have hst : aA (ev LI TT) (aP TT) je [(4,.au 7 [] 0 0),(5,.str ⟨t.toArray⟩),(7,.ptr .own (aO c2)),(11,.bool true)] = aA (ev LI TT) (aP TT) je [(4,.au 7 [] 0 0),(5,.str ⟨t.toArray⟩),(7,.ptr .own (aO c2))]:=by
   obtain ⟨c',v,h0,h1,v1⟩:=rK c2 2 (by omega) (by omega)
   have hw : IntKind.i64.wrap (2000 + v) = 2000 + v:=bu (by omega) (by omega)
   have hx : t.length + 10≤9223372036854775807:=by omega
   by_cases h : (t.length : Int) < 2000 + v
   ·simp -implicitDefEqProofs [je,n5,v1,hw,h,h10,gD,l10,hx]
   ·simp -implicitDefEqProofs [je,n5,v1,hw,h]
  have tA:=Dq hst
  rw [e] at tA
  obtain ⟨c4,n,hn,u4⟩:=zM c3 [1,2,77,100000,100001,0,-1] (by simp) (by simp)
  simp at u4 tA
  refine ⟨n,s,(by unfold bI; simp at hn; omega),by simp only at hs; omega,?_⟩
  rw [bD (b:=lA) (rs:=[.t 2,.t 3]) (n:=1) rfl rfl]
  simp -implicitDefEqProofs [lA,hc,u1,u2,u4,tA,lT,jh,jQ]
theorem Gc (code : List UInt8) (hl : code.length≤1048576) : ∃ (s : aj),s.length≤1000000∧∃ ps,ev LI TT 14 [.row .sl 1 (code.map eU)] = some (.str ⟨s.toArray⟩,ps):=by
 obtain ⟨c,hc⟩:=uT code hl
 obtain ⟨c1,t,ht,u1⟩:=uS c
 have BX : (⟨#[255]⟩ : ByteArray) = ⟨([255] : aj).toArray⟩:=rfl
 obtain ⟨⟨⟨c3,i⟩,s⟩,hs,e⟩:=tV (f:=aA (ev LI TT) (aP TT) qQ)
   (fun (g : (bg×Nat)×aj)=>[(3,.au 7 [] 0 0),(4,.str ⟨g.2.toArray⟩),(5,.int .i64 g.1.2),(7,.ptr .own (aO g.1.1))])
   (fun g=>100 - g.1.2) (fun g=>g.1.2≤6∧g.2.length + 1≤101 * 2 ^ g.1.2)
   (fun g=>[(3,.au 7 [] 0 0),(4,.str ⟨g.2.toArray⟩),(5,.int .i64 g.1.2),(7,.ptr .own (aO g.1.1)),(13,.bool false)])
   (fun g hg=>by
    obtain ⟨⟨c,i⟩,s⟩:=g
    simp only at hg
    obtain ⟨hi,hg⟩:=hg
    obtain ⟨c',v,h0,h1,v1⟩:=rK c 6 (by omega) (by omega)
    have hp : 2 ^ i≤2 ^ 6:=Nat.pow_le_pow_right (by omega) hi
    have hw:=fE i (by omega)
    by_cases h : (i : Int) < v
    ·right
     have tu : 2 ^ (i + 1) = 2 * 2 ^ i:=by rw [Nat.pow_succ]; omega
     refine ⟨((c',i + 1),s ++ s ++ [255]),⟨by simp only; omega,by simp only [List.length_append,List.length_cons,List.length_nil]; rw [tu]; omega⟩,by simp only; omega,?_⟩
     have hx : s.length + s.length≤9223372036854775806:=by omega
     have hx2 : s.length + s.length≤9223372036854775807:=by omega
     simp -implicitDefEqProofs [qQ,uA,v1,hw,h,BX,gD,hx,hx2]
    ·left
     refine ⟨((c',i),s),⟨hi,hg⟩,?_⟩
     simp -implicitDefEqProofs [qQ,uA,v1,hw,h])
   ((c1,0),t) ⟨by simp,by simp only [Nat.pow_zero]; omega⟩
 simp only at hs
 have hp : 2 ^ i≤2 ^ 6:=Nat.pow_le_pow_right (by omega) hs.1
 simp at e
 refine ⟨s,by omega,?_⟩
 rw [bD (b:=qR) (rs:=[.t 2]) (n:=1) rfl rfl]
 simp -implicitDefEqProofs [qR,hc,u1,e]
end M
set_option maxHeartbeats 4000000
namespace M
open Go
theorem F9 (code : List UInt8) (hl : code.length≤1048576) : ∃ a : Nat,a≤255∧ev LI TT 11 [.row .ak 1 (code.map eU),.int .i64 1] = some (.int .i64 a,[.dead,.dead]):=by
 by_cases h : 1 < code.length
 ·refine ⟨(code[1]).toNat,by have:=(code[1]).toNat_lt; omega,?_⟩
  have hw : IntKind.i64.wrap ((code[1]).toNat : Int) = (code[1]).toNat:=by have:=(code[1]).toNat_lt; exact bu (by omega) (by omega)
  have h2 : (1 : Int) < code.length:=by omega
  rw [bD (b:=kY) (rs:=[.t 4]) (n:=2) rfl rfl]
  simp -implicitDefEqProofs [kY,h,h2,hw]
 ·refine ⟨(7 + code.length) % 256,by omega,?_⟩
  have h2 : ¬ (1 : Int) < code.length:=by omega
  have hw : IntKind.i64.wrap (7 + (code.length : Int)) = 7 + code.length:=bu (by omega) (by omega)
  have h7 : IntKind.i64.wrap 7 = 7:=bu (by omega) (by omega)
  have ht : (7 + (code.length : Int)).tmod 256 = (((7 + code.length) % 256 : Nat) : Int):=by rw [Int.tmod_eq_emod_of_nonneg (by omega)]; omega
  rw [bD (b:=kY) (rs:=[.t 4]) (n:=2) rfl rfl]
  simp -implicitDefEqProofs [kY,h,h2,h7,hw,ht]
theorem Gg (b : UInt8) : (IntKind.u8.wrap (((b.toNat ^^^ 1 : Nat)) : Int)) = ((b ^^^ 1).toNat : Int):=by
 have h : (b ^^^ 1).toNat = b.toNat ^^^ 1:=UInt8.toNat_xor b 1
 rw [h]
 have h2:=(b ^^^ 1).toNat_lt
 rw [h] at h2
 exact uR (by omega) (by omega)
theorem zI (b : UInt8) : gE [[.int .u8 (IntKind.u8.wrap ((b.toNat % 2 ^ IntKind.u8.bits ^^^ 1 % 2 ^ IntKind.u8.bits : Nat) : Int))]] = some [b ^^^ 1]:=by
 have h:=b.toNat_lt
 have e1 : b.toNat % 2 ^ IntKind.u8.bits = b.toNat:=Nat.mod_eq_of_lt h
 have e2 : 1 % 2 ^ IntKind.u8.bits = 1:=rfl
 rw [e1,e2,Gg,uP _ (b ^^^ 1).toNat_lt]
 simp
theorem Bg (s : aj) (i : Nat) (h : i < s.length) : bT s i = s.take i ++ (s[i] ^^^ 1) :: s.drop (i + 1):=by
 unfold bT
 simp [List.getD_eq_getElem?_getD,h]
theorem EY {m : Nat} {b : aj} (h2 : m≤100000) (h3 : b.length≤2000) : (bZ m b).length≤4000:=by
 have l1:=dZ 5 m (by omega)
 have l2:=dZ 5 b.length (by omega)
 unfold bZ
 have l3:=dZ 17 (b7 (ay m ++ 32 :: (ay b.length ++ 10 :: b))) (Nat.lt_trans (lU _) (by decide))
 simp
 omega
theorem Dn (code : List UInt8) (k : code.length≤9223372036854775807∧∀ b∈code,True) : ∃ ps,ev LI TT 3 [.row .sl 1 (code.map eU)] = some (.bool true,ps):=by
 rw [bD (b:=ja) (rs:=[.t 2]) (n:=1) rfl rfl]
 have h1:=Ax code
 by_cases hbig : 1048576 < code.length
 ·simp -implicitDefEqProofs [ja,h1,hbig]
 obtain ⟨n,b,hn,hb,ps,e1⟩:=Gb code (by omega)
 obtain ⟨raw,hr,ps2,e2⟩:=Ga code (by omega)
 obtain ⟨x,hx,JG,e3⟩:=Gc code (by omega)
 obtain ⟨a,ha,u4⟩:=F9 code (by omega)
 have u1:=r9 n b (by omega)
 have u2:=sg n b (by omega)
 have v1:=r8 raw (by omega)
 have v2:=AA raw (by omega)
 have v3:=vo x (by omega)
 have v4:=vp x (by omega)
 have hrw : (cm raw).2.1.length≤1073741824:=by
  unfold cm
  cases hc : bP 10 raw with
  | none=>simp
  | some p =>
   have:=congrArg List.length (pI hc)
   simp at this
   simp only
   split
   ·split
    ·simp only; omega
    ·simp
   ·simp
 have v5:=r9 (cm raw).1 (cm raw).2.1 (by omega)
 have hok:=yL (s:=raw)
 have hno:=yK (s:=raw)
 generalize cm raw = R at v1 v2 v5 hok hno
 obtain ⟨r1,r2,r3⟩:=R
 simp only at v1 v2 v5 hok hno
 by_cases hs : bY n b = []
 ·rw [hs] at u1 u2
  cases r3
  ·obtain ⟨rfl,rfl,_⟩ : r1 = 0∧r2 = []∧True:=by have:=hno rfl; simp at this; exact ⟨this.1,this.2,trivial⟩
   try simp at u1
   try simp at u2
   try simp at v1
   try simp at v2
   try simp at v3
   try simp at v4
   try simp at v5
   try simp at e1
   try simp at e2
   try simp at e3
   simp -implicitDefEqProofs [ja,h1,hbig,e1,e2,e3,u1,u2,v1,v2,v3,v4,v5]
  ·have h5:=hok rfl
   rw [h5] at v5
   try simp at u1
   try simp at u2
   try simp at v1
   try simp at v2
   try simp at v3
   try simp at v4
   try simp at v5
   try simp at e1
   try simp at e2
   try simp at e3
   simp -implicitDefEqProofs [ja,h1,hbig,e1,e2,e3,u1,u2,v1,v2,v3,v4,v5]
 ·obtain ⟨m,rfl,m1,m2,m3,hm⟩:=yM rfl hs
  have hlen:=EY (b:=b) m2 m3
  have hpos : 0 < (bZ m b).length:=List.length_pos_iff.2 (yN m b)
  rw [hm] at u1 u2
  have u3:=r8 (bZ m b) (by omega)
  rw [EX m1 m2 m3] at u3
  have hne : ¬ bZ m b = []:=yN m b
  have xy:=fun i h=>EW (m:=m) (b:=b) (i:=i) h
  generalize bZ m b = s at u1 u2 u3 hlen hpos hne xy
  have kP : a * s.length / 256 < s.length:=by
   have : a * s.length≤255 * s.length:=Nat.mul_le_mul_right _ ha
   omega
  have hq : (IntKind.i64.wrap ((a : Int) * s.length)).tdiv 256 = ((a * s.length / 256 : Nat) : Int):=by
   have hm2 : a * s.length≤255 * s.length:=Nat.mul_le_mul_right _ ha
   have e : (a : Int) * s.length = ((a * s.length : Nat) : Int):=by simp
   rw [e,bu (by omega) (by omega),Int.tdiv_eq_ediv_of_nonneg (by omega)]
   omega
  generalize a * s.length / 256 = i at kP hq
  have u6:=r8 (bT s i) (by rw [wH _ _ kP]; omega)
  rw [yK (xy i kP),Bg s i kP] at u6
  have hi2 : (i : Int) < s.length:=by omega
  have xA : (i : Int)≤s.length:=by omega
  have hi4 : i≤s.length:=by omega
  have hw : IntKind.i64.wrap ((i : Int) + 1) = i + 1:=bu (by omega) (by omega)
  have hwi : IntKind.i64.wrap (i : Int) = i:=bu (by omega) (by omega)
  have xB : (i : Int) + 1≤s.length:=by omega
  have dw : (0 : Int)≤(i : Int) + 1:=by omega
  have xC : i + 1≤s.length:=by omega
  have hz : (s.drop (i + 1)).take (s.length - (i + 1)) = s.drop (i + 1):=List.take_of_length_le (by simp)
  have nc : i + 1≤9223372036854775807:=by omega
  have ng : i + 1 + (s.length - (i + 1))≤9223372036854775807:=by omega
  cases r3
  ·obtain ⟨rfl,rfl,_⟩ : r1 = 0∧r2 = []∧True:=by have:=hno rfl; simp at this; exact ⟨this.1,this.2,trivial⟩
   try simp at u1
   try simp at u2
   try simp at u3
   try simp at u4
   try simp at u6
   try simp at v1
   try simp at v2
   try simp at v3
   try simp at v4
   try simp at v5
   try simp at e1
   try simp at e2
   try simp at e3
   simp -implicitDefEqProofs [ja,h1,hbig,e1,e2,e3,u1,u2,u3,u4,u6,v1,v2,v3,v4,v5,eq_false hne,hq,kP,hi2,xA,hi4,xB,xC,dw,hw,hwi,hz,nc,ng,Lib.extract_mk,zI,gD]
   omega
  ·have h5:=hok rfl
   rw [h5] at v5
   try simp at u1
   try simp at u2
   try simp at u3
   try simp at u4
   try simp at u6
   try simp at v1
   try simp at v2
   try simp at v3
   try simp at v4
   try simp at v5
   try simp at e1
   try simp at e2
   try simp at e3
   simp -implicitDefEqProofs [ja,h1,hbig,e1,e2,e3,u1,u2,u3,u4,u6,v1,v2,v3,v4,v5,eq_false hne,hq,kP,hi2,xA,hi4,xB,xC,dw,hw,hwi,hz,nc,ng,Lib.extract_mk,zI,gD]
   omega
end M
