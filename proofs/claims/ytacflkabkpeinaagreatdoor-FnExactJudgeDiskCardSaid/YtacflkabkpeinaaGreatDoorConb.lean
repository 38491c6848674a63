/- What the functions come to in the machine; no conditions. -/
import Derived.Test.YtacflkabkpeinaaGreatDoorCona
import Derived.Test.YtacflkabkpeinaaGreatDoorMc
set_option linter.unusedSectionVars false
set_option linter.unusedVariables false
set_option linter.unusedSimpArgs false
set_option maxHeartbeats 4000000
namespace M
open Go
theorem O3 {s : ag} (h : (cg s).2.2 = false) : cg s = (0,[],false):=by
 unfold cg at h ⊢
 (repeat' split at h) <;> first | (cases h; done) | skip
 all_goals (repeat' split) <;> simp_all
theorem DJ {s : ag} (h : (cg s).2.2 = true) : 1≤(cg s).1∧(cg s).1≤100000∧(cg s).2.1.length≤2000∧gx (cg s).1 (cg s).2.1 = s∧s≠[]:=by
 unfold cg at h ⊢
 cases hc : cr 10 s with
 | none=>simp [hc] at h
 | some p =>
  obtain ⟨l,b⟩:=p
  have hs : s≠[]:=by rintro rfl; simp [cr] at hc
  simp only [hc] at h ⊢
  split at h
  ·rename_i w0 w w2 hw
   split at h
   ·rename_i g
    simp only [hw,g,if_true]
    have g2:=g
    unfold gx at g
    split at g
    ·rename_i c
     exact ⟨c.1,c.2.1,c.2.2,by trivial,hs⟩
    ·exact absurd g.symm hs
   ·cases h
  ·cases h
theorem DH (s : ag) : (cg s).2.1.length≤2000:=by
 cases h : (cg s).2.2
 ·rw [O3 h]; simp
 ·exact (DJ h).2.2.1
theorem JS {s : ag} (h : dI s = true) : s.length≤20:=by
 unfold dI at h
 simp only [Bool.and_eq_true,decide_eq_true_eq] at h
 omega
theorem JZ {s : ag} (h : eX s = true) : s.length≤60:=by
 unfold eX at h
 simp only [Bool.and_eq_true,decide_eq_true_eq] at h
 omega
theorem OP {s : ag} (h : fZ s = true) : s.length≤60:=by
 unfold fZ at h
 simp only [Bool.and_eq_true,decide_eq_true_eq] at h
 omega
theorem oq {α : Type} {w : α→Nat} {l : List α} {n m : Nat} (h : ∀ x∈l,w x≤n) (hl : l.length≤m) : wL w l≤m * (n + 1):=by
 suffices H : wL w l≤l.length * (n + 1) from Nat.le_trans H (Nat.mul_le_mul_right _ hl)
 clear hl
 induction l with
 | nil=>simp [wL]
 | cons x l ih =>
  have h1:=h x (List.mem_cons_self ..)
  have h2:=ih fun y hy=>h y (List.mem_cons_of_mem _ hy)
  simp only [wL,List.length_cons,List.map_cons,List.sum_cons,Nat.add_mul,Nat.one_mul] at h2 ⊢
  omega
theorem O7 {r : bP} (h : eT r = true) : bp r≤800:=by
 have A:=DL h
 have h1 : wL aJ r.fields≤8 * (80 + 1):=oq (fun f hf=>by
  have:=Bh A.f hf
  have h1:=JS this.1
  have h2:=JZ this.2.1
  simp only [aJ]; omega) (Mc A.f)
 have h2:=A.b
 simp only [bp]
 omega
theorem uM {o : Ob} (h : cy o = true) : aV o≤1300:=by
 have A:=yP h
 have h1:=O7 A.resp
 have h2:=OP A.path
 have hn : ∀ x∈o.names,x.length≤20:=by
  have:=A.names
  unfold uJ at this
  simp only [Bool.and_eq_true] at this
  exact fun x hx=>JS (gV.1 this.1 x hx)
 have h3 : wL wS o.names≤4 * (20 + 1):=oq hn A.n4
 have h4 : wL wS o.values≤4 * (60 + 1):=oq (fun x hx=>JZ (A.vals x hx)) (by have:=A.len; have:=A.n4; omega)
 simp only [aV]
 omega
theorem Oz {s : ag} (h : (fY s).2 = true) : cy (fY s).1 = true∧dS (fY s).1 = s:=by
 have:=O2 h
 refine ⟨this.1,?_⟩
 have h2 : cy (fY s).1 = true:=this.1
 unfold dS
 rw [if_pos h2]
 exact this.2
theorem OA (s : ag) : aV (fY s).1≤1300:=by
 cases h : (fY s).2
 ·have : fY s = (cF,false):=O1 h
  rw [this]
  decide
 ·exact uM (Oz h).1
theorem S2 {b : Bn} (h : dr b = true) : aR b≤120:=by
 unfold dr at h
 simp only [Bool.and_eq_true,decide_eq_true_eq] at h
 obtain ⟨_,h⟩:=h
 split at h
 ·simp only [Bool.and_eq_true,decide_eq_true_eq] at h
  have:=OP h.1
  simp [aR,h.2]; omega
 ·split at h
  ·simp only [Bool.and_eq_true] at h
   have h1:=JS h.1
   have h2:=JZ h.2
   simp only [aR]; omega
  ·cases h
theorem S6 {b : Bn} (h : jk b≠[]) : dr b = true:=by
 unfold jk at h
 split at h
 ·assumption
 ·exact absurd rfl h
theorem S4 {s : ag} (h : (fA s).2 = true) (hs : s≠[]) : dr (fA s).1 = true∧jk (fA s).1 = s:=by
 unfold fA qB at h ⊢
 split at h
 ·split at h
  ·rename_i hw hg
   simp only [hw,hg,if_true]
   exact ⟨S6 (by rw [hg]; exact hs),trivial⟩
  ·cases h
 ·cases h
theorem S3 : fA [] = (zB,false):=by
 simp [fA,qB,gW,cr,bg]
theorem S5 {s : ag} (h : (fA s).2 = true) : dr (fA s).1 = true∧jk (fA s).1 = s:=by
 refine S4 h ?_
 rintro rfl
 rw [S3] at h
 cases h
def rM (m n : Int) : Int:=if n < 100000 then max m n else m
def iN (d : aW) (i : Nat) (g : List Bn×Int) (_ : Nat) : (List Bn×Int) ⊕ ((List Bn×Int)×Int×Bn×Nat) :=
 if (cg (cw d i)).2.2 = true∧(fA (cg (cw d i)).2.1).2 = true then .inl (g.1 ++ [(fA (cg (cw d i)).2.1).1],rM g.2 (cg (cw d i)).1) else .inr (g,(cg (cw d i)).1,(fA (cg (cw d i)).2.1).1,i)
def vU {α β : Type} : α ⊕ (α×β)→α
 | .inl a=>a
 | .inr a=>a.1
def cP (d : aW) : List Bn×Int:=vU (cE (iN d) 0 (List.range 5) ([],0))
noncomputable def pY (bs : List Bn) (d : aW) (i : Nat) (g : List Kp×Int) (_ : Nat) : List Kp×Int :=
 if (cg (cw d ((5 + i : Nat) : Int))).2.2 = true∧(fY (cg (cw d ((5 + i : Nat) : Int))).2.1).2 = true∧(cg (cw d ((5 + i : Nat) : Int))).1 < 100000 then
  (if nA bs (fY (cg (cw d ((5 + i : Nat) : Int))).2.1).1 = true then g.1 else g.1 ++ [⟨(fY (cg (cw d ((5 + i : Nat) : Int))).2.1).1,((5 + i : Nat) : Int),(cg (cw d ((5 + i : Nat) : Int))).1⟩],max g.2 (cg (cw d ((5 + i : Nat) : Int))).1)
 else g
noncomputable def jS (bs : List Bn) (d : aW) (m : Int) : List Kp×Int:=foldI (pY bs d) 0 (List.range 15) ([],m)
def mC (all : List Kp) (i : Nat) (k : Kp) : Bool:=(all.drop (i + 1)).any fun x=>decide (x.seq = k.seq) || iS x.obj k.obj
def lH (all : List Kp) (i : Nat) (g : List Kp×Int) (k : Kp) : List Kp×Int:=if mC all i k = true then g else (g.1 ++ [k],uK k.at_)
def iL : List Kp→List Kp
 | []=>[]
 | k :: l=>if (l.any fun x=>decide (x.seq = k.seq) || iS x.obj k.obj) = true then iL l else k :: iL l
def Dw (l : List Kp) : Int:=l.getLast?.elim 5 fun k=>uK k.at_
def jz (all : List Kp) : List Kp×Int:=(iL all,Dw (iL all))
theorem yw : ∀ l : List Kp,List.Sublist (iL l) l
 | []=>List.Sublist.refl _
 | k :: l=>by
  unfold iL
  split
  ·exact (yw l).trans (List.sublist_cons_self ..)
  ·exact (yw l).cons_cons k
theorem NX (all : List Kp) : ∀ (l : List Kp) (i : Nat) (g : List Kp×Int),all.drop i = l→foldI (lH all) i l g = (g.1 ++ iL l,if iL l = [] then g.2 else Dw (iL l))
 | [],i,g,_=>by simp [foldI,iL]
 | k :: l,i,g,h=>by
  have hd : all.drop (i + 1) = l:=by rw [← List.drop_drop,h]; rfl
  rw [foldI,NX all l (i + 1) _ hd]
  unfold lH mC
  rw [hd]
  rw [show iL (k :: l) = (if (l.any fun x=>decide (x.seq = k.seq) || iS x.obj k.obj) = true then iL l else k :: iL l) from rfl]
  split
  ·rfl
  ·simp only [List.append_assoc,List.singleton_append,reduceCtorEq,if_false]
   congr 1
   cases hL : iL l with
   | nil=>simp [Dw]
   | cons a L=>simp [Dw]
theorem NW (all : List Kp) : foldI (lH all) 0 all ([],5) = jz all:=by
 rw [NX all all 0 _ rfl]
 unfold jz
 simp only [List.nil_append]
 congr 1
 split
 ·rename_i h; rw [h]; rfl
 ·rfl
noncomputable def ij (d : aW) : List Kp×Int:=jS (cP d).1 d (cP d).2
noncomputable def fX (d : aW) : List Kp:=gb Kp.seq (ij d).1
noncomputable def dZ (d : aW) : Sh:=⟨d,(jz (fX d)).1,(cP d).1,(jz (fX d)).2,(ij d).2 + 1⟩
structure sG (k : Kp) : Prop where
 o : cy k.obj = true
 a : 5≤k.at_∧k.at_≤19
 s : 1≤k.seq∧k.seq < 100000
theorem Dp (d : aW) {i : Nat} {g : List Bn×Int} (hg : (∀ b∈g.1,dr b = true)∧g.1.length≤i∧0≤g.2∧g.2 < 100000) {x : Nat} :
  (∀ g',iN d i g x = .inl g'→(∀ b∈g'.1,dr b = true)∧g'.1.length≤i + 1∧0≤g'.2∧g'.2 < 100000)∧∀ e,iN d i g x = .inr e→e.1 = g:=by
 unfold iN
 by_cases c : (cg (cw d i)).2.2 = true∧(fA (cg (cw d i)).2.1).2 = true
 ·rw [if_pos c]
  refine ⟨fun g' h=>?_,fun e h=>by cases h⟩
  have r:=DJ c.1
  have b:=S5 c.2
  cases h
  refine ⟨fun y hy=>?_,by simp; omega,?_,?_⟩
  ·rcases List.mem_append.1 hy with hy | hy
   ·exact hg.1 y hy
   ·simp at hy; subst hy; exact b.1
  ·simp only [rM]; split <;> omega
  ·simp only [rM]; split <;> omega
 ·rw [if_neg c]
  exact ⟨fun g' h=>(by cases h),fun e h=>(by cases h; rfl)⟩
theorem pV (d : aW) : (∀ b∈(cP d).1,dr b = true)∧(cP d).1.length≤5∧0≤(cP d).2∧(cP d).2 < 100000:=by
 have H:=I7 (go:=iN d) (I:=fun i g=>(∀ b∈g.1,dr b = true)∧g.1.length≤i∧0≤g.2∧g.2 < 100000) (O:=fun e=>(∀ b∈e.1.1,dr b = true)∧e.1.1.length≤5∧0≤e.1.2∧e.1.2 < 100000) 5
  (fun i g b hi hg=>⟨(Dp d hg).1,fun e he=>by rw [(Dp d hg).2 e he]; exact ⟨hg.1,by omega,hg.2.2⟩⟩) (List.range 5) 0 ([],0) (by simp) (by simp)
 unfold cP
 cases hr : cE (iN d) 0 (List.range 5) ([],0) with
 | inl g=>exact H.1 g hr
 | inr g=>exact H.2 g hr
theorem My {β γ : Type} {go : Nat→γ→β→γ} (I : Nat→γ→Prop) : ∀ (l : List β) (i : Nat) (g : γ),(∀ j b g,i≤j→j < i + l.length→I j g→I (j + 1) (go j g b))→I i g→I (i + l.length) (foldI go i l g)
 | [],i,g,_,h=>h
 | b :: l,i,g,hs,h=>by
  rw [foldI,List.length_cons,show i + (l.length + 1) = i + 1 + l.length by omega]
  exact My I l (i + 1) _ (fun j b g h1 h2 h3=>hs j b g (by omega) (by simp; omega) h3) (hs i b g (Nat.le_refl _) (by simp) h)
structure qv (i : Nat) (g : List Kp×Int) : Prop where
 k : ∀ k∈g.1,sG k
 n : g.1.length≤i
 m : 0≤g.2∧g.2 < 100000
 q : ∀ k∈g.1,k.seq≤g.2
 a : ∀ k∈g.1,k.at_ < 5 + i
 d : g.1.Pairwise fun x y=>x.at_≠y.at_
theorem Iz (bs : List Bn) (d : aW) {i : Nat} (hi : i < 15) {g : List Kp×Int} (x : Nat) (h : qv i g) : qv (i + 1) (pY bs d i g x):=by
 unfold pY
 split
 ·rename_i c
  have r:=DJ c.1
  have o:=Oz c.2.1
  have hm:=h.m
  split
  ·exact ⟨h.k,by have:=h.n; simp only; omega,by simp only; omega,fun k hk=>by have:=h.q k hk; simp only; omega,fun k hk=>by have:=h.a k hk; omega,h.d⟩
  ·generalize cg (cw d ((5 + i : Nat) : Int)) = rr at *
   generalize gu : ((5 + i : Nat) : Int) = at_
   refine ⟨fun k hk=>?_,by have:=h.n; rw [List.length_append,List.length_singleton]; omega,by constructor <;> (try dsimp only) <;> omega,fun k hk=>?_,fun k hk=>?_,?_⟩
   ·rcases List.mem_append.1 hk with hk | hk
    ·exact h.k k hk
    ·rw [List.mem_singleton] at hk; subst hk; exact ⟨o.1,⟨by (try dsimp only); omega,by (try dsimp only); omega⟩,⟨r.1,c.2.2⟩⟩
   ·rcases List.mem_append.1 hk with hk | hk
    ·have:=h.q k hk; (try dsimp only); omega
    ·rw [List.mem_singleton] at hk; subst hk; (try dsimp only); omega
   ·rcases List.mem_append.1 hk with hk | hk
    ·have:=h.a k hk; omega
    ·rw [List.mem_singleton] at hk; subst hk; (try dsimp only); omega
   ·dsimp only
    rw [List.pairwise_append]
    refine ⟨h.d,List.pairwise_singleton ..,fun x hx y hy=>?_⟩
    rw [List.mem_singleton] at hy
    subst hy
    have:=h.a x hx
    (try dsimp only)
    omega
 ·exact ⟨h.k,by have:=h.n; omega,h.m,h.q,fun k hk=>by have:=h.a k hk; omega,h.d⟩
theorem Od (bs : List Bn) (d : aW) (m : Int) (hm : 0≤m∧m < 100000) : qv 15 (jS bs d m):=by
 have:=My (go:=pY bs d) qv (List.range 15) 0 ([],m) (fun j b g h1 h2 h3=>Iz bs d (by simp at h2; omega) b h3) ⟨by simp,by simp,hm,by simp,by simp,by simp⟩
 simpa [jS] using this
theorem abQ (bs : List Bn) (d : aW) (m : Int) (hm : 0≤m∧m < 100000) : (jS bs d m).1.length≤15:=(Od bs d m hm).n
theorem yC (d : aW) : qv 15 (ij d):=Od _ d _ (pV d).2.2
theorem Oc {d : aW} {k : Kp} : k∈fX d↔k∈(ij d).1:=(JF Kp.seq _).mem_iff
theorem Iu (d : aW) : (fX d).length≤15:=by
 unfold fX
 rw [(JF Kp.seq _).length_eq]
 exact (yC d).n
theorem Dn {d : aW} {k : Kp} (h : k∈fX d) : sG k∧k.seq≤(ij d).2:=⟨(yC d).k k (Oc.1 h),(yC d).q k (Oc.1 h)⟩
end M
set_option maxHeartbeats 4000000
namespace M
open Go
theorem PC (c : ag) : ∀ (n : Nat) (s : ag),∀ w∈Lib.splitK c 0 n s,w.length≤s.length
 | 0,s,w,h=>by simp [Lib.splitK] at h; subst h; exact Nat.le_refl _
 | n + 1,s,w,h=>by
  unfold Lib.splitK at h
  split at h
  ·simp at h; subst h; exact Nat.le_refl _
  ·rcases List.mem_cons.1 h with rfl | h
   ·simp; omega
   ·have:=PC c n _ w h
    simp at this; omega
theorem PD (s c : ag) : ∀ w∈Lib.split s c,w.length≤s.length:=PC c _ s
theorem aef (c : ag) (n : Nat) (s : ag) : Lib.splitK c 0 n s≠[]:=by
 cases n with
 | zero=>simp [Lib.splitK]
 | succ n=>unfold Lib.splitK; split <;> simp
theorem aej (s c : ag) : Lib.split s c≠[]:=aef c _ s
def wv (l : ag) : aF:=⟨(Lib.cut l colon).1,(Lib.cut l colon).2.1⟩
def nX (n : Nat) (i : Nat) (g : List aF) (l : ag) : List aF ⊕ (List aF×Option (Nat×ag)) :=
 if (Lib.cut l colon).2.2 = true then (if i + 1 = n∧(Lib.cut l colon).1 = cT then .inr (g,some (i,(Lib.cut l colon).2.1)) else .inl (g ++ [wv l])) else .inr (g,none)
def uQ : List aF ⊕ (List aF×Option (Nat×ag))→Option (List aF)
 | .inl g=>some g
 | .inr x=>if x.2.isSome = true then some x.1 else none
theorem OM (n : Nat) : ∀ (ls : List ag) (i : Nat) (g : List aF),i + ls.length = n→uQ (cE (nX n) i ls g) = (ko ls).map fun fs=>g ++ fs
 | [],i,g,_=>by simp [cE,uQ,ko]
 | l :: ls,i,g,h=>by
  have hl : i + 1 = n↔ls = []:=by
   rw [List.length_cons] at h
   constructor
   ·intro e; exact List.length_eq_zero_iff.1 (by omega)
   ·rintro rfl; simpa using h
  have hp : nX n i g l = if (Lib.cut l colon).2.2 = true then (if ls = []∧(Lib.cut l colon).1 = cT then .inr (g,some (i,(Lib.cut l colon).2.1)) else .inl (g ++ [wv l])) else .inr (g,none):=by
   unfold nX
   simp only [hl]
  rw [cE,ko,hp]
  by_cases c1 : (Lib.cut l colon).2.2 = true
  ·rw [if_pos c1,if_pos c1]
   by_cases c2 : ls = []∧(Lib.cut l colon).1 = cT
   ·rw [if_pos c2,if_pos c2]; simp [uQ]
   ·rw [if_neg c2,if_neg c2]
    simp only
    have:=OM n ls (i + 1) (g ++ [wv l]) (by rw [List.length_cons] at h; omega)
    rw [this,Option.map_map]
    congr 1
    funext fs
    simp [wv]
  ·rw [if_neg c1,if_neg c1]; rfl
theorem Mt {m : Nat} : ∀ {ls : List ag} {fs : List aF},(∀ l∈ls,l.length≤m)→ko ls = some fs→fs.length≤ls.length∧∀ f∈fs,aJ f≤2 * m
 | [],fs,_,h=>by simp [ko] at h; subst h; simp
 | l :: ls,fs,hm,h=>by
  rw [ko] at h
  split at h
  ·split at h
   ·simp at h; subst h; simp
   ·obtain ⟨fs',h1,rfl⟩:=Option.map_eq_some_iff.1 h
    have ih:=Mt (fun x hx=>hm x (List.mem_cons_of_mem _ hx)) h1
    refine ⟨by simp; exact ih.1,fun f hf=>?_⟩
    rcases List.mem_cons.1 hf with rfl | hf
    ·have:=A5 l colon
     have:=hm l (List.mem_cons_self ..)
     simp only [aJ]; omega
    ·exact ih.2 f hf
  ·cases h
theorem OO {s : ag} {p : ag×List aF×ag} (h : jV s = some p) : p.1.length≤s.length∧wL aJ p.2.1≤10 * (2 * s.length + 1)∧p.2.2.length≤s.length:=by
 unfold jV at h
 split at h
 ·rename_i g
  obtain ⟨fs,h1,rfl⟩:=Option.map_eq_some_iff.1 h
  have hc:=A5 s aX
  have hm:=PD (Lib.cut s aX).1 crlf
  have hw:=Mt (m:=s.length) (fun l hl=>by have:=hm l (List.mem_of_mem_tail hl); omega) h1
  refine ⟨?_,oq hw.2 (by have:=hw.1; have:=g.2; simp at *; omega),hc.2⟩
  cases hs : Lib.split (Lib.cut s aX).1 crlf with
  | nil=>simp
  | cons a l=>have:=hm a (by rw [hs]; simp); simp only [List.headD_cons]; omega
 ·cases h
theorem adV {s : ag} {r : bP} (h : mL s = some r) : bp r≤10 * (2 * s.length + 1) + s.length:=by
 unfold mL at h
 cases hp : jV s with
 | none=>rw [hp] at h; cases h
 | some p =>
  rw [hp] at h
  obtain ⟨w,_,rfl⟩:=Option.map_eq_some_iff.1 h
  have:=OO hp
  simp only [bp]
  omega
theorem Rc (b l0 : ag) (lt : List ag) (hm : ∀ l∈lt,l.length≤1073741824) (hl9 : lt.length≤9) :
  aC (ai (ev LI TT) (aj TT) pH) [(7,.str ⟨b.toArray⟩),(9,.row .own 1 ((l0 :: lt).map eS)),(10,.row .own 2 []),(31,.ref 9 []),(32,.cut 9 [] 1 (lt.length + 1)),(33,.int .i64 lt.length),(34,.int .i64 0)] =
  (match cE (nX lt.length) 0 lt [] with
   | .inl g=>some (.exit 0,[(7,.str ⟨b.toArray⟩),(9,.row .own 1 ((l0 :: lt).map eS)),(10,.row .own 2 (g.map aG)),(31,.ref 9 []),(32,.cut 9 [] 1 (lt.length + 1)),(33,.int .i64 lt.length),(34,.int .i64 lt.length),(35,.bool false)])
   | .inr (g,none)=>some (.ret,[(2,.str ⟨#[]⟩),(3,.row .own 2 []),(4,.str ⟨#[]⟩),(5,.bool false),(10,.row .own 2 (g.map aG))])
   | .inr (g,some (i,v))=>some (.exit 0,[(7,.str ⟨b.toArray⟩),(9,.row .own 1 ((l0 :: lt).map eS)),(10,.row .own 2 (g.map aG)),(13,.str ⟨cT.toArray⟩),(14,.str ⟨v.toArray⟩),(31,.ref 9 []),(32,.cut 9 [] 1 (lt.length + 1)),(33,.int .i64 lt.length),(34,.int .i64 i),(55,.bool true)])):=by
 have:=yB (xt:=0) (f:=ai (ev LI TT) (aj TT) pH) lt (fun i (g : List aF)=>[(7,.str ⟨b.toArray⟩),(9,.row .own 1 ((l0 :: lt).map eS)),(10,.row .own 2 (g.map aG)),(31,.ref 9 []),(32,.cut 9 [] 1 (lt.length + 1)),(33,.int .i64 lt.length),(34,.int .i64 i)]) (nX lt.length)
  (fun g=>[(7,.str ⟨b.toArray⟩),(9,.row .own 1 ((l0 :: lt).map eS)),(10,.row .own 2 (g.map aG)),(31,.ref 9 []),(32,.cut 9 [] 1 (lt.length + 1)),(33,.int .i64 lt.length),(34,.int .i64 lt.length),(35,.bool false)])
  (fun e=>match e with | (g,none)=>(.ret,[(2,.str ⟨#[]⟩),(3,.row .own 2 []),(4,.str ⟨#[]⟩),(5,.bool false),(10,.row .own 2 (g.map aG))]) | (g,some (i,v))=>(.exit 0,[(7,.str ⟨b.toArray⟩),(9,.row .own 1 ((l0 :: lt).map eS)),(10,.row .own 2 (g.map aG)),(13,.str ⟨cT.toArray⟩),(14,.str ⟨v.toArray⟩),(31,.ref 9 []),(32,.cut 9 [] 1 (lt.length + 1)),(33,.int .i64 lt.length),(34,.int .i64 i),(55,.bool true)]))
  (fun i g=>g.length≤i) [] (by simp) (fun i l g hi hl hg=>?_) (fun i l g g' hi hg fS=>?_) (fun g hg=>?_)
 ·simp only [List.map_nil] at this
  refine this.trans ?_
  cases cE (nX lt.length) 0 lt [] with
  | inl g=>rfl
  | inr e=>obtain ⟨g,b⟩:=e; cases b with | none=>rfl | some x=>rfl
 ·have hw:=aM i (by omega)
  obtain ⟨_,rfl⟩:=List.getElem?_eq_some_iff.1 hi
  have e1 : 1 + i = i + 1:=by omega
  have u1:=sY lt[i] [58,32] (by have:=hm _ (List.getElem_mem hl); omega)
  have eE : IntKind.i64.wrap ((lt.length : Int) + 1 - 2) = (lt.length : Int) + 1 - 2:=bz (by omega) (by omega)
  have hlz : (g.length + 1) * 32≤140737488355328:=by omega
  unfold nX wv colon
  cases h1 : (Lib.cut lt[i] [58,32]).2.2
  ·rw [h1] at u1
   try simp at u1
   simp -implicitDefEqProofs [pH,tS,hl,hw,eE,e1,u1,h1,lv,hlz,cQ]
  ·rw [h1] at u1
   by_cases h2 : i + 1 = lt.length
   ·have fP : (i : Int) = (lt.length : Int) + 1 - 2:=by omega
    by_cases h3 : (Lib.cut lt[i] [58,32]).1 = cT
    ·rw [h3] at u1
     try simp [cT] at u1
     simp -implicitDefEqProofs [pH,tS,hl,hw,eE,e1,u1,h1,eq_true h2,eq_true fP,h3,lv,hlz,cQ,cT]
    ·have Bx:=h3
     simp [cT] at Bx
     try simp at u1
     simp -implicitDefEqProofs [pH,tS,hl,hw,eE,e1,u1,h1,eq_true h2,eq_true fP,eq_false h3,eq_false Bx,lv,hlz,cQ]
   ·have fP : ¬ (i : Int) = (lt.length : Int) + 1 - 2:=by omega
    try simp at u1
    simp -implicitDefEqProofs [pH,tS,hl,hw,eE,e1,u1,h1,eq_false h2,eq_false fP,lv,hlz,cQ]
 ·unfold nX at fS
  split at fS
  ·split at fS
   ·cases fS
   ·cases fS; simp; omega
  ·cases fS
 ·simp -implicitDefEqProofs [pH,tS]
theorem TS (s : ag) (hb : s.length≤16777216) : ev LI TT 418 [.str ⟨s.toArray⟩] = some (.au [.str ⟨((jV s).elim [] (fun p=>p.1)).toArray⟩,.row .own 2 (((jV s).elim [] (fun p=>p.2.1)).map aG),.str ⟨((jV s).elim [] (fun p=>p.2.2)).toArray⟩,.bool ((jV s).isSome)],[.dead]):=by
 rw [aq (b:=pI) (rs:=[.t 2,.t 3,.t 4,.t 5]) (n:=1) rfl rfl]
 have u1:=sY s [13,10,13,10] (by omega)
 have hc:=A5 s [13,10,13,10]
 have u2:=Vs (Lib.cut s [13,10,13,10]).1 [13,10] (by omega) (by simp)
 have hm:=PD (Lib.cut s [13,10,13,10]).1 [13,10]
 have hne:=aej (Lib.cut s [13,10,13,10]).1 [13,10]
 have ep : jV s = if (Lib.cut s [13,10,13,10]).2.2 = true∧((Lib.split (Lib.cut s [13,10,13,10]).1 [13,10]).length : Int)≤10 then (ko (Lib.split (Lib.cut s [13,10,13,10]).1 [13,10]).tail).map fun fs=>((Lib.split (Lib.cut s [13,10,13,10]).1 [13,10]).headD [],fs,(Lib.cut s [13,10,13,10]).2.1) else none:=rfl
 rw [ep]
 clear ep
 generalize Lib.split (Lib.cut s [13,10,13,10]).1 [13,10] = ls at u2 hm hne
 generalize Lib.cut s [13,10,13,10] = p at u1 u2 hm hc
 obtain ⟨hd,bd,ok⟩:=p
 try simp only at u1 u2 hm hc
 obtain ⟨l0,lt,rfl⟩ : ∃ l0 lt,ls = l0 :: lt:=by cases ls with | nil=>exact absurd rfl hne | cons a l=>exact ⟨_,_,rfl⟩
 cases ok
 ·try simp at u1 u2
  simp -implicitDefEqProofs [pI,u1,u2]
 by_cases g : (((l0 :: lt).length : Nat) : Int)≤10
 rotate_left
 ·have g' : 10 < (lt.length : Int) + 1:=by simp at g; omega
  have g2 : ¬ (lt.length : Int) + 1≤10:=by omega
  try simp at u1 u2
  simp -implicitDefEqProofs [pI,u1,u2,g',g2]
 have g' : ¬ 10 < (lt.length : Int) + 1:=by simp at g; omega
 have g2 : (lt.length : Int) + 1≤10:=by omega
 have g5 : (1 : Int)≤(lt.length : Int) + 1:=by omega
 have u3:=Rc bd l0 lt (fun l hl=>by have:=hm l (List.mem_cons_of_mem _ hl); omega) (by omega)
 have u4:=OM lt.length lt 0 [] (by simp)
 simp only [List.nil_append,Option.map_id'] at u4
 try simp at u1 u2
 cases hr : cE (nX lt.length) 0 lt [] with
 | inl fs =>
  rw [hr] at u3 u4
  simp [uQ] at u3 u4
  simp -implicitDefEqProofs [pI,u1,u2,g',g2,g5,u3,← u4]
 | inr x =>
 obtain ⟨fs,x⟩:=x
 cases x
 ·rw [hr] at u3 u4
  simp [uQ] at u3 u4
  simp -implicitDefEqProofs [pI,u1,u2,g',g2,g5,u3,← u4]
 rw [hr] at u3 u4
 simp [uQ] at u3 u4
 simp -implicitDefEqProofs [pI,u1,u2,g',g2,g5,u3,← u4]
 all_goals (repeat' split) <;> first | rfl | omega | (simp_all; done) | (simp_all; omega) | skip
theorem TC (s : ag) (hb : s.length≤16777216) : ev LI TT 367 [.str ⟨s.toArray⟩] = some (.au [.agg (gG .own ((cB s).1)),.bool ((cB s).2)],[.dead]):=by
 rw [aq (b:=mA) (rs:=[.c 2 3 true 74,.t 3]) (n:=1) rfl rfl]
 have u1:=TS  s hb
 try simp at u1
 rw [adN]
 have hw:=fun r=>adV (s:=s) (r:=r)
 have fT:=fun p=>OO (s:=s) (p:=p)
 have er : mL s = (jV s).bind fun p=>(jC (bg 32 p.1)).map fun w=>(⟨(((aZ w).getD 0 : Nat) : Int),p.2.1,p.2.2⟩ : bP):=rfl
 rw [er] at hw ⊢
 clear er
 generalize jV s = po at u1 hw fT ⊢
 cases po with
 | none =>
  have u2:=qF [] 32 (by simp)
  try simp at u1 u2
  simp -implicitDefEqProofs [mA,u1,u2,bX]
 | some p =>
 obtain ⟨f,fs,b⟩:=p
 have hq:=fT _ rfl
 simp only at hq
 have u2:=qF f 32 (by omega)
 have hm:=mU 32 f
 simp only [Option.bind_some] at hw ⊢
 rcases dK : bg 32 f with _ | ⟨w0,_ | ⟨w1,_ | ⟨w2,_ | ⟨w3,ws⟩⟩⟩⟩
 ·exact absurd dK (vq 32 f)
 ·rw [dK] at u2; simp at u1 u2; simp -implicitDefEqProofs [mA,u1,u2,jC,bX]
 ·rw [dK] at u2; simp at u1 u2; simp -implicitDefEqProofs [mA,u1,u2,jC,bX]
 rotate_left
 ·rw [dK] at u2
  have hn : ¬ ((ws.length : Int) + 1 + 1 + 1 + 1 = 3):=by omega
  simp at u1 u2; simp -implicitDefEqProofs [mA,u1,u2,jC,bX,hn]
 rw [dK] at u2 hw
 have hw1:=hm w1 (by rw [dK]; simp)
 have u3:=sU w1 (by omega)
 have hr:=hw ⟨(((aZ w1).getD 0 : Nat) : Int),fs,b⟩ rfl
 have u4:=KU ⟨(((aZ w1).getD 0 : Nat) : Int),fs,b⟩ (by omega)
 simp only [jC,Option.map_some]
 obtain ⟨n,hn⟩ : ∃ n,(((aZ w1).getD 0 : Nat) : Int) = n:=⟨_,rfl⟩
 rw [hn] at u3 u4 ⊢
 by_cases g0 : s = []
 ·subst g0
  simp at u1 u2 u3 u4
  simp -implicitDefEqProofs [mA,u1,u2,u3,bX]
 by_cases g : eV ⟨n,fs,b⟩ = s
 ·rw [g] at u4
  simp at u1 u2 u3 u4
  simp -implicitDefEqProofs [mA,u1,u2,u3,u4,g,g0,bX]
 simp at u1 u2 u3 u4
 simp -implicitDefEqProofs [mA,u1,u2,u3,u4,g,g0,bX]
 all_goals (repeat' split) <;> first | rfl | omega | (simp_all; done) | (simp_all; omega) | skip
end M
set_option maxHeartbeats 4000000
namespace M
open Go
theorem Sl (s : ag) (hb : s.length≤1073741824) :
  aC (ai (ev LI TT) (aj TT) oc) [(0,.str ⟨s.toArray⟩),(4,.row .own 1 []),(5,.int .i64 0),(6,.int .i64 1)] =
  (match nv s with
   | .inl g=>some (.exit 0,[(0,.str ⟨s.toArray⟩),(4,.row .own 1 (g.1.map eS)),(5,.int .i64 g.2),(6,.int .i64 ((s.length - 1 : Nat) + 1 : Nat)),(12,.bool false)])
   | .inr g=>some (.ret,[(2,.row .own 1 (g.1.map eS)),(3,.int .i64 g.2),(4,.dead)])):=by
 have:=yB (xt:=0) (f:=ai (ev LI TT) (aj TT) oc) (s.drop 1) (fun i (g : List ag×Nat)=>[(0,.str ⟨s.toArray⟩),(4,.row .own 1 (g.1.map eS)),(5,.int .i64 g.2),(6,.int .i64 ((i + 1 : Nat) : Int))]) (fun j=>fR s (j + 1))
  (fun g=>[(0,.str ⟨s.toArray⟩),(4,.row .own 1 (g.1.map eS)),(5,.int .i64 g.2),(6,.int .i64 ((s.length - 1 : Nat) + 1 : Nat)),(12,.bool false)])
  (fun g=>(.ret,[(2,.row .own 1 (g.1.map eS)),(3,.int .i64 g.2),(4,.dead)]))
  (fun i g=>g.1.length≤i∧g.2≤i + 1) ([],0) (by simp) (fun i b g hi hl hg=>?_) (fun i b g g' hi hg fS=>?_) (fun g hg=>?_)
 ·simp only [List.map_nil] at this
  refine this.trans ?_
  unfold nv
  cases cE (fun j=>fR s (j + 1)) 0 (s.drop 1) ([],0) with
  | inl g=>rfl
  | inr e=>rfl
 ·simp only [List.length_drop] at hl
  have k9 : i + 1 < s.length:=by omega
  have hi2 : s[i + 1] = b:=by
   rw [List.getElem?_drop] at hi
   have:=(List.getElem?_eq_some_iff.1 hi)
   obtain ⟨_,h⟩:=this
   rw [← h]
   congr 1
   omega
  have tB : i < s.length:=by omega
  have hw : IntKind.i64.wrap ((i : Int) + 1 + 1) = (i : Int) + 1 + 1:=bz (by omega) (by omega)
  have eE : IntKind.i64.wrap (i : Int) = i:=bz (by omega) (by omega)
  have mh : (0 : Int)≤(i : Int) + 1:=by omega
  have hlz : (g.1.length + 1) * 16≤140737488355328:=by omega
  have hls : ((i : Int) + 1 < s.length):=by omega
  have ht : s[i]? = some s[i]:=List.getElem?_eq_getElem tB
  have hle : (i : Int)≤s.length:=by omega
  unfold fR
  simp only [Nat.add_sub_cancel,ht]
  by_cases g1 : b = 10
  rotate_left
  ·have cO : ¬ (b.toNat : Int) = 10:=fun h=>g1 (UInt8.toNat_inj.1 (by show b.toNat = 10; omega))
   simp -implicitDefEqProofs [oc,sn,k9,hls,hi2,hw,eE,mh,g1,cO,lv]
  subst g1
  by_cases g2 : s[i] = 13
  rotate_left
  ·have mg : ¬ ((s[i]).toNat : Int) = 13:=fun h=>g2 (UInt8.toNat_inj.1 (by show (s[i]).toNat = 13; omega))
   simp -implicitDefEqProofs [oc,sn,k9,hls,hi2,hw,eE,mh,g2,mg,tB,lv]
  by_cases g3 : g.2 + 1≤i + 1
  rotate_left
  ·have hO : (i : Int) < g.2:=by omega
   simp -implicitDefEqProofs [oc,sn,k9,hls,hi2,hw,eE,mh,g2,g3,hO,tB,lv]
  have hO : ¬ (i : Int) < g.2:=by omega
  have MG : (g.2 : Int)≤i:=by omega
  have g5 : 1≤i + 1:=by omega
  rw [List.drop_take]
  obtain ⟨Y,hY⟩ : ∃ Y,(s.drop g.2).take (i - g.2) = Y:=⟨_,rfl⟩
  rw [hY]
  cases Y with
  | nil=>simp -implicitDefEqProofs [oc,sn,k9,hls,hi2,hw,eE,mh,g2,g3,hO,MG,hY,g5,tB,lv,hle,Lib.extract_mk]
  | cons y Y=>simp -implicitDefEqProofs [oc,sn,k9,hls,hi2,hw,eE,mh,g2,g3,hO,MG,hY,g5,tB,lv,hle,hlz,cQ,Lib.extract_mk]
 ·unfold fR at fS
  split at fS
  ·split at fS
   ·cases fS
   ·cases fS; simp; omega
  ·cases fS; omega
 ·have h0 : ¬ (((s.length - 1 : Nat) : Int) + 1 < s.length):=by omega
  simp only [List.length_drop]
  simp -implicitDefEqProofs [oc,sn,h0]
theorem Vf (s : ag) (hb : s.length≤1073741824) : ev LI TT 360 [.str ⟨s.toArray⟩] = some (.au [.row .own 1 ((gv s).map eS),.int .i64 (jL s)],[.dead]):=by
 rw [aq (b:=zQ) (rs:=[.t 2,.t 3]) (n:=1) rfl rfl]
 have u1:=Sl  s hb
 try simp at u1
 unfold gv jL
 cases hr : nv s with
 | inl g=>rw [hr] at u1; simp at u1; simp -implicitDefEqProofs [zQ,u1]
 | inr g =>
 rw [hr] at u1
 simp at u1
 simp -implicitDefEqProofs [zQ,u1]
 all_goals (repeat' split) <;> first | rfl | omega | (simp_all; done) | (simp_all; omega) | skip
def AZ (i : Nat) (_ : Unit) (x : UInt8×UInt8) : Unit ⊕ Nat:=if oO x = true then .inr i else .inl ()
theorem LJ : ∀ (l : List (UInt8×UInt8)) (i : Nat),cE AZ i l () = match cC oO i l with
  | some (k,_)=>.inr k
  | none=>.inl ()
 | [],_=>rfl
 | x :: l,i=>by
  rw [cE,cC]
  unfold AZ
  cases h : oO x
  ·simp only [Bool.false_eq_true,if_false]
   exact LJ l (i + 1)
  ·simp
theorem Sj (ls : List ag) (i : Nat) (hi : i < ls.length) (fs : List aF) (hm : ls[i].length≤1073741824) (hf : fs.length≤1073741824) :
  aC (ai (ev LI TT) (aj TT) qi) [(0,.row .af 1 (ls.map eS)),(3,.row .own 2 (fs.map aG)),(4,.int .i64 i),(5,.int .i64 0)] =
  (match qM ls[i] with
   | none=>some (.exit 2,[(0,.row .af 1 (ls.map eS)),(3,.row .own 2 (fs.map aG)),(4,.int .i64 i),(5,.int .i64 (ls[i].zip (ls[i].drop 1)).length),(21,.bool false)])
   | some (k,_)=>some (.exit 2,[(0,.row .af 1 (ls.map eS)),(3,.row .own 2 ((fs ++ fW ls[i]).map aG)),(4,.int .i64 i)])):=by
 have:=yB (xt:=2) (f:=ai (ev LI TT) (aj TT) qi) (ls[i].zip (ls[i].drop 1)) (fun k (_ : Unit)=>[(0,.row .af 1 (ls.map eS)),(3,.row .own 2 (fs.map aG)),(4,.int .i64 i),(5,.int .i64 k)]) AZ
  (fun _=>[(0,.row .af 1 (ls.map eS)),(3,.row .own 2 (fs.map aG)),(4,.int .i64 i),(5,.int .i64 (ls[i].zip (ls[i].drop 1)).length),(21,.bool false)])
  (fun k=>(.exit 2,[(0,.row .af 1 (ls.map eS)),(3,.row .own 2 ((fs ++ (if ls[i].take k = cT then [] else [(⟨ls[i].take k,ls[i].drop (k + 2)⟩ : aF)])).map aG)),(4,.int .i64 i)]))
  (fun _ _=>True) () trivial (fun k b _ hk hl _=>?_) (fun _ _ _ _ _ _ _=>trivial) (fun _ _=>?_)
 ·refine this.trans ?_
  rw [LJ]
  unfold fW qM
  cases cC oO 0 (ls[i].zip (ls[i].drop 1)) with
  | none=>rfl
  | some x=>rfl
 ·have hlz : k + 1 < ls[i].length:=by simp at hl; omega
  have hk1 : k < ls[i].length:=by omega
  obtain ⟨q1,q2⟩:=List.getElem?_zip_eq_some.1 hk
  obtain ⟨_,h1⟩:=List.getElem?_eq_some_iff.1 q1
  rw [List.getElem?_drop,Nat.add_comm] at q2
  obtain ⟨_,h2⟩:=List.getElem?_eq_some_iff.1 q2
  clear q1 q2
  have mh : (0 : Int)≤(k : Int) + 1:=by omega
  have GH : (0 : Int)≤(k : Int) + 2:=by omega
  have MW : ((k : Int) + 2).toNat = k + 2:=by omega
  have htk : (ls[i].drop (k + 2)).take (ls[i].length - (k + 2)) = ls[i].drop (k + 2):=List.take_of_length_le (by simp)
  have hw:=aM k (by omega)
  have eE : IntKind.i64.wrap ((k : Int) + 2) = k + 2:=bz (by omega) (by omega)
  have hla : (fs.length + 1) * 32≤140737488355328:=by omega
  have hls : ((k : Int) + 1 < ls[i].length):=by omega
  have hle : (k : Int)≤ls[i].length:=by omega
  have hle2 : (k : Int) + 2≤ls[i].length:=by omega
  obtain ⟨b1,b2⟩:=b
  simp only at h1 h2
  unfold AZ oO
  simp only
  by_cases g1 : b1 = 58
  rotate_left
  ·have cO : ¬ (b1.toNat : Int) = 58:=fun h=>g1 (UInt8.toNat_inj.1 (by show b1.toNat = 58; omega))
   simp -implicitDefEqProofs [qi,vj,hi,hk1,hls,h1,hw,mh,g1,cO,lv]
  by_cases g2 : b2 = 32
  rotate_left
  ·have mg : ¬ (b2.toNat : Int) = 32:=fun h=>g2 (UInt8.toNat_inj.1 (by show b2.toNat = 32; omega))
   simp -implicitDefEqProofs [qi,vj,hi,hk1,hlz,hls,h1,h2,hw,mh,GH,g1,g2,mg,lv]
  subst g1 g2
  by_cases g3 : ls[i].take k = cT
  ·have hO : ls[i].take k = [99,111,110,116,101,110,116,45,108,101,110,103,116,104]:=g3
   simp -implicitDefEqProofs [qi,vj,zP,hi,hk1,hlz,hls,h1,h2,hw,mh,GH,MW,htk,eE,g3,hO,lv,hle,hle2,Lib.extract_mk,cT]
  ·have hO : ¬ ls[i].take k = [99,111,110,116,101,110,116,45,108,101,110,103,116,104]:=g3
   simp -implicitDefEqProofs [qi,vj,zP,hi,hk1,hlz,hls,h1,h2,hw,mh,GH,MW,htk,eE,g3,hO,lv,hle,hle2,hla,cQ,Lib.extract_mk]
 ·have hlen : (ls[i].zip (ls[i].drop 1)).length = ls[i].length - 1:=by simp
  have h0 : ¬ (((ls[i].length - 1 : Nat) : Int) + 1 < ls[i].length):=by omega
  have hw:=aM (ls[i].length - 1) (by omega)
  simp only [hlen]
  simp -implicitDefEqProofs [qi,vj,hi,h0,hw]
theorem Sk (ls : List ag) (hm : ∀ l∈ls,l.length≤1073741824) (hb : ls.length≤1073741824) : aC (ai (ev LI TT) (aj TT) vk) [(0,.row .af 1 (ls.map eS)),(3,.row .own 2 (([]).map aG)),(4,.int .i64 0)] = some (.exit 0,[(0,.row .af 1 (ls.map eS)),(3,.row .own 2 ((((ls).flatMap fW)).map aG)),(4,.int .i64 (ls).length),(11,.bool false)]):=by
 refine Dk (f:=ai (ev LI TT) (aj TT) vk) (ls) fW (fun i out=>[(0,.row .af 1 (ls.map eS)),(3,.row .own 2 ((out).map aG)),(4,.int .i64 i)]) (fun out=>[(0,.row .af 1 (ls.map eS)),(3,.row .own 2 ((out).map aG)),(4,.int .i64 (ls).length),(11,.bool false)]) (fun i b out hi hl hout=>?_) (fun out hout=>?_)
 ·have hw:=aM i (by first | omega | (simp at hl; omega))
  obtain ⟨_,rfl⟩:=List.getElem?_eq_some_iff.1 hi
  have hlo : out.length≤i:=by rw [hout]; exact Mp _ (fun b=>by unfold fW; split <;> (try split) <;> simp) _ _
  have u1:=Sj ls i hl out (hm _ (List.getElem_mem hl)) (by omega)
  cases hc : qM ls[i] with
  | none =>
   rw [hc] at u1
   have hz : fW ls[i] = []:=by unfold fW; rw [hc]
   try simp at u1
   simp -implicitDefEqProofs [vk,Es,hl,hw,u1,hz]
  | some x =>
  obtain ⟨k,x⟩:=x
  rw [hc] at u1
  try simp at u1
  simp -implicitDefEqProofs [vk,Es,hl,hw,u1]
 ·simp -implicitDefEqProofs [vk,Es]
theorem Ve (ls : List ag) (hm : ∀ l∈ls,l.length≤1073741824) (hb : ls.length≤1073741824) : ev LI TT 361 [.row .af 1 (ls.map eS)] = some (.row .own 2 ((ls.flatMap fW).map aG),[.dead]):=by
 rw [aq (b:=Et) (rs:=[.t 2]) (n:=1) rfl rfl]
 have u1:=Sk  ls hm hb
 try simp at u1
 simp -implicitDefEqProofs [Et,u1,zP]
 all_goals (repeat' split) <;> first | rfl | omega | (simp_all; done) | (simp_all; omega) | skip
theorem U3 (s : ag) (hb : s.length≤16777216) : ev LI TT 274 [.str ⟨s.toArray⟩] = some (.au [.agg (gG .own ((cB s).1)),.bool ((cB s).2)],[.dead]):=by
 rw [aq (b:=mQ) (rs:=[.c 2 3 true 74,.t 3]) (n:=1) rfl rfl]
 have u1:=Vf  s (by omega)
 try simp at u1
 rw [adO]
 have hw:=fun r=>adZ (s:=s) (r:=r)
 have hh:=Nf s
 have G5 : ∀ l∈gv s,l.length≤16777216:=fun l hl=>by have:=ew (w:=wS) hl; simp only [wS] at this; omega
 have pq:=aY (w:=wS) (gv s)
 have er : mM s = (if 0≤jL s∧gv s≠[] then (jC (bg 32 ((gv s).headD []))).map fun w=>(⟨(((aZ w).getD 0 : Nat) : Int),(gv s).tail.flatMap fW,s.drop (jL s).toNat⟩ : bP) else none):=rfl
 rw [er] at hw ⊢
 clear er
 generalize gv s = ls at u1 hw hh G5 pq ⊢
 generalize jL s = n at u1 hw hh ⊢
 by_cases g1 : 0≤n
 rotate_left
 ·have cO : n < 0:=by omega
  simp -implicitDefEqProofs [mQ,u1,g1,cO,bX]
 have cO : ¬ n < 0:=by omega
 cases ls with
 | nil=>simp at u1; simp -implicitDefEqProofs [mQ,u1,g1,cO,bX]
 | cons l0 lt =>
 have hl0:=G5 l0 (by simp)
 have u2:=sX l0 (by omega)
 have hm:=mU 32 l0
 simp only [List.headD_cons,List.tail_cons] at hw ⊢
 have g2 : 0≤n∧l0 :: lt≠[]:=⟨g1,by simp⟩
 have g3 : ¬ ((lt.length : Int) + 1 = 0):=by omega
 rw [if_pos g2] at hw ⊢
 rcases dK : bg 32 l0 with _ | ⟨w0,_ | ⟨w1,_ | ⟨w2,_ | ⟨w3,ws⟩⟩⟩⟩
 ·exact absurd dK (vq 32 l0)
 ·rw [dK] at u2; simp at u1 u2; simp -implicitDefEqProofs [mQ,u1,u2,jC,bX,cO,g3]
 ·rw [dK] at u2; simp at u1 u2; simp -implicitDefEqProofs [mQ,u1,u2,jC,bX,cO,g3]
 rotate_left
 ·rw [dK] at u2
  have hn : ¬ ((ws.length : Int) + 1 + 1 + 1 + 1 = 3):=by omega
  simp at u1 u2; simp -implicitDefEqProofs [mQ,u1,u2,jC,bX,hn,cO,g3]
 rw [dK] at u2 hw
 have hw1:=hm w1 (by rw [dK]; simp)
 have u3:=sV w1 (by omega)
 have u5:=Ve lt (fun l hl=>by have:=G5 l (List.mem_cons_of_mem _ hl); omega) (by simp at pq; omega)
 have hr:=hw ⟨(((aZ w1).getD 0 : Nat) : Int),lt.flatMap fW,s.drop n.toNat⟩ rfl
 have u4:=Le ⟨(((aZ w1).getD 0 : Nat) : Int),lt.flatMap fW,s.drop n.toNat⟩ (by omega)
 have hn2 : n≤s.length:=hh.2.1
 have Nt : (lt.map eS).take lt.length = lt.map eS:=List.take_of_length_le (by simp)
 have tC : (1 : Int)≤(lt.length : Int) + 1:=by omega
 have htk : (s.drop n.toNat).take (s.length - n.toNat) = s.drop n.toNat:=List.take_of_length_le (by simp)
 simp only [jC,Option.map_some]
 obtain ⟨st,hst⟩ : ∃ st,(((aZ w1).getD 0 : Nat) : Int) = st:=⟨_,rfl⟩
 rw [hst] at u3 u4 ⊢
 by_cases g : eV ⟨st,lt.flatMap fW,s.drop n.toNat⟩ = s
 ·rw [g] at u4
  simp at u1 u2 u3 u4 u5
  simp -implicitDefEqProofs [mQ,D7,D8,u1,u2,u3,u4,u5,g,g1,cO,g3,hn2,tC,htk,Nt,bX,Lib.extract_mk]
 simp at u1 u2 u3 u4 u5
 simp -implicitDefEqProofs [mQ,u1,u2,u3,u4,u5,g,g1,cO,g3,hn2,tC,htk,Nt,bX,Lib.extract_mk,D7,D8]
 all_goals (repeat' split) <;> first | rfl | omega | (simp_all; done) | (simp_all; omega) | skip
end M
set_option maxHeartbeats 4000000
namespace M
open Go
theorem I0 (s : ag) : bp (cB s).1≤800:=by
 cases h : (cB s).2
 ·have : cB s = (bX,false):=O1 h
  rw [this]
  decide
 ·exact O7 (O2 h).1
theorem aid (fs : List aF) : wL wS (fK fs)≤(wL aJ fs + 1) * (wL aJ fs + 1):=by
 refine oq (fun w hw=>?_) (J1 fs)
 unfold fK at hw
 obtain ⟨x,hx,rfl⟩:=List.mem_map.1 hw
 have h1:=Aj _ x hx
 have h2:=tq fs iO
 simp only [wS,bW,List.length_map]
 omega
theorem Qf (s : ag) : wL wS (fK (cB s).1.fields)≤641601:=by
 have h1:=I0 s
 have h2:=aid (cB s).1.fields
 have h3 : wL aJ (cB s).1.fields + 1≤801:=by
  have : bp (cB s).1 = wL aJ (cB s).1.fields + (cB s).1.body.length:=rfl
  omega
 exact Nat.le_trans h2 (Nat.mul_le_mul h3 h3)
theorem Gb (s : ag) : (e7 s).1.length≤s.length∧(e7 s).2.length≤s.length:=by
 unfold e7
 cases h : cr 10 s with
 | none=>simp
 | some p=>have:=qN h; simp only [Option.getD_some]; omega
theorem LS (s : ag) : ∃ b,Lib.cut s [10] = ((e7 s).1,(e7 s).2,b):=by
 rw [A6]
 unfold e7
 cases h : cr 10 s with
 | none=>exact ⟨_,rfl⟩
 | some p=>exact ⟨_,rfl⟩
theorem PT : ∀ (n : Nat) (s : ag),(dF n s).1.length = n∧(∀ v∈(dF n s).1,v.length≤s.length)∧(dF n s).2.length≤s.length
 | 0,s=>by simp [dF]
 | n + 1,s=>by
  have h1:=Gb s
  have ih:=PT n (e7 s).2
  rw [dF]
  refine ⟨by simp [ih.1],fun v hv=>?_,by simp only; omega⟩
  rcases List.mem_cons.1 hv with rfl | hv
  ·exact h1.1
  ·have:=ih.2.1 v hv; omega
theorem Kw (s p : ag) (tt : Int) (n : Nat) (hn : n≤4) : ∀ (m i : Nat) (g : List ag) (t : ag),i + m = n→g.length = i→t.length≤16777216 →
  aC (ai (ev LI TT) (aj TT) xu) [(0,.str ⟨s.toArray⟩),(2,.ptr .own (bn .own cF)),(5,.str ⟨t.toArray⟩),(12,.ptr .own (bn .own ⟨p,[],g,bX,tt⟩)),(60,.int .i64 n),(61,.int .i64 i)] = some (.exit 0,[(0,.str ⟨s.toArray⟩),(2,.ptr .own (bn .own cF)),(5,.str ⟨((dF m t).2).toArray⟩),(12,.ptr .own (bn .own ⟨p,[],g ++ (dF m t).1,bX,tt⟩)),(60,.int .i64 n),(61,.int .i64 n),(62,.bool false)])
 | 0,i,g,t,hi,hg,ht=>by
  have : i = n:=by omega
  subst this
  rw [dy]
  simp -implicitDefEqProofs [xu,Ht,dF,bX,cF]
 | m + 1,i,g,t,hi,hg,ht=>by
  have hl : i < n:=by omega
  have hw:=aM i (by omega)
  obtain ⟨b,hb⟩:=LS t
  have u1:=sY t [10] (by omega)
  rw [hb] at u1
  have hlz : (g.length + 1) * 16≤140737488355328:=by omega
  have hc:=Gb t
  have hstep : ai (ev LI TT) (aj TT) xu [(0,.str ⟨s.toArray⟩),(2,.ptr .own (bn .own cF)),(5,.str ⟨t.toArray⟩),(12,.ptr .own (bn .own ⟨p,[],g,bX,tt⟩)),(60,.int .i64 n),(61,.int .i64 i)] = some (.normal,[(0,.str ⟨s.toArray⟩),(2,.ptr .own (bn .own cF)),(5,.str ⟨((e7 t).2).toArray⟩),(12,.ptr .own (bn .own ⟨p,[],g ++ [(e7 t).1],bX,tt⟩)),(60,.int .i64 n),(61,.int .i64 ((i + 1 : Nat) : Int))]):=by
   try simp at u1
   simp -implicitDefEqProofs [xu,Ht,bX,cF,hl,hw,u1,hlz,cQ]
  rw [dy,hstep]
  have ih:=Kw s p tt n hn m (i + 1) (g ++ [(e7 t).1]) (e7 t).2 (by omega) (by simp; omega) (by omega)
  rw [List.append_assoc] at ih
  exact ih
theorem Tz (s : ag) (hb : s.length≤16777216) : ev LI TT 281 [.str ⟨s.toArray⟩] = some (.au [.agg (bn .own ((fY s).1)),.bool ((fY s).2)],[.dead]):=by
 rw [aq (b:=mz) (rs:=[.c 2 7 true 116,.t 3]) (n:=1) rfl rfl]
 have u1:=sY s [10] (by omega)
 obtain ⟨cb,hcb⟩:=LS s
 rw [hcb] at u1
 have hc:=Gb s
 rw [acv]
 have eo : rP s = (j8 (bg 32 (e7 s).1)).bind fun w=>(aZ w.2.1).bind fun t=>(aZ w.2.2).bind fun n=>yQ w.1 t n (e7 s).2:=rfl
 rw [eo]
 clear eo hcb
 generalize e7 s = ln at u1 hc ⊢
 obtain ⟨l,b⟩:=ln
 simp only at u1 hc ⊢
 have u2:=qF l 32 (by omega)
 have hm:=mU 32 l
 by_cases h4 : (bg 32 l).length = 4
 rotate_left
 ·have oZ : ¬ (((bg 32 l).length : Int) = 4):=by omega
  have wZ : j8 (bg 32 l) = none:=by unfold j8; split; (rename_i e; rw [e] at h4; simp at h4); rfl
  rw [wZ]
  try simp at u1 u2
  simp -implicitDefEqProofs [mz,u1,u2,oZ,cF,bX]
 obtain ⟨w0,w1,w2,w3,hw⟩:=Df h4
 rw [hw] at u2 hm ⊢
 have BH:=hm w1 (by simp)
 have u3:=sU w2 (by have:=hm w2 (by simp); omega)
 have u4:=sU w3 (by have:=hm w3 (by simp); omega)
 simp only [j8,Option.bind_some]
 cases h2 : aZ w2 with
 | none =>
  rw [h2] at u3
  simp at u1 u2 u3 u4
  simp -implicitDefEqProofs [mz,u1,u2,u3,u4,cF,bX]
 | some t =>
 cases h3 : aZ w3 with
 | none =>
  rw [h2] at u3
  rw [h3] at u4
  simp at u1 u2 u3 u4
  simp -implicitDefEqProofs [mz,u1,u2,u3,u4,cF,bX]
 | some n =>
 rw [h2] at u3
 rw [h3] at u4
 simp only [Option.bind_some]
 unfold yQ
 by_cases g : n≤4
 rotate_left
 ·have g' : 4 < (n : Int):=by omega
  simp at u1 u2 u3 u4
  simp -implicitDefEqProofs [mz,u1,u2,u3,u4,g,g',cF,bX]
 have g' : ¬ 4 < (n : Int):=by omega
 have u5:=Kw s w1 (t : Nat) n g n 0 [] b (by omega) rfl (by omega)
 have hv:=PT n b
 have u6:=TC (dF n b).2 (by omega)
 have hrw:=I0 (dF n b).2
 have hvw:=Qf (dF n b).2
 have hrf : bp (cB (dF n b).2).1 = wL aJ (cB (dF n b).2).1.fields + (cB (dF n b).2).1.body.length:=rfl
 have u7:=KZ (cB (dF n b).2).1.fields (by omega)
 have hvs : wL wS (dF n b).1≤4 * (16777216 + 1):=oq (fun v dH=>by have:=hv.2.1 v dH; simp only [wS]; omega) (by omega)
 have u8:=TA ⟨w1,fK (cB (dF n b).2).1.fields,(dF n b).1,(cB (dF n b).2).1,(t : Nat)⟩ (by simp only [aV]; omega)
 rw [if_pos g]
 generalize fK (cB (dF n b).2).1.fields = vo at u7 u8 ⊢
 generalize cB (dF n b).2 = rr at u6 u7 u8 ⊢
 obtain ⟨⟨I6,I3,IU⟩,O8⟩:=rr
 simp only at u6 u7 u8 ⊢
 generalize dF n b = tv at u5 u6 u8 ⊢
 obtain ⟨vs,rest⟩:=tv
 simp only [cF,bX,List.nil_append] at u5 u6 u8 ⊢
 simp at u1 u2 u3 u4 u5 u6 u7
 cases O8
 ·simp -implicitDefEqProofs [mz,u1,u2,u3,u4,u5,u6,u7,g']
 by_cases gt : dS ⟨w1,vo,vs,⟨I6,I3,IU⟩,(t : Int)⟩ = s
 ·rw [gt] at u8
  simp at u8
  simp -implicitDefEqProofs [mz,u1,u2,u3,u4,u5,u6,u7,u8,g',gt]
 simp at u8
 simp -implicitDefEqProofs [mz,u1,u2,u3,u4,u5,u6,u7,u8,g',gt,eq_false gt]
 all_goals (repeat' split) <;> first | rfl | omega | (simp_all; done) | (simp_all; omega) | skip
def jh : Nat→ag→Option (List ag×ag)
 | 0,s=>some ([],s)
 | n + 1,s=>(cr 10 s).bind fun p=>(jh n p.2).map fun q=>(p.1 :: q.1,q.2)
theorem PR : ∀ (n : Nat) (s : ag) (q : List ag×ag),jh n s = some q→q.1.length = n∧(∀ v∈q.1,v.length≤s.length)∧q.2.length≤s.length∧s.drop (s.length - q.2.length) = q.2
 | 0,s,q,h=>by simp [jh] at h; subst h; simp
 | n + 1,s,q,h=>by
  rw [jh] at h
  obtain ⟨p,h1,h2⟩:=Option.bind_eq_some_iff.1 h
  obtain ⟨r,h3,rfl⟩:=Option.map_eq_some_iff.1 h2
  have hd:=qN h1
  have ih:=PR n p.2 r h3
  refine ⟨by simp [ih.1],fun v hv=>?_,by simp only; omega,?_⟩
  ·rcases List.mem_cons.1 hv with rfl | hv
   ·omega
   ·have:=ih.2.1 v hv; omega
  ·simp only
   have e : s.length - r.2.length = (s.length - p.2.length) + (p.2.length - r.2.length):=by omega
   rw [e,← List.drop_drop,hd.2.1]
   exact ih.2.2.2
theorem PO (r : ag) : ∀ (l : List ag),(∀ v∈l,bC 10 v)→jh l.length (gR l ++ r) = some (l,r)
 | [],_=>rfl
 | v :: l,h=>by
  have e : gR (v :: l) ++ r = v ++ 10 :: (gR l ++ r):=by simp [gR]
  rw [e,List.length_cons,jh,Ga v _ (h v (List.mem_cons_self ..))]
  simp only [Option.bind_some]
  rw [PO r l fun x hx=>h x (List.mem_cons_of_mem _ hx)]
  rfl
noncomputable def uN (s : ag) : Option Ob:=(cr 10 s).bind fun c=>(j8 (bg 32 c.1)).bind fun w=>(jh (min ((aZ w.2.2).getD 0) 4) c.2).map fun q=>⟨w.1,fK (cB q.2).1.fields,q.1,(cB q.2).1,(((aZ w.2.1).getD 0 : Nat) : Int)⟩
theorem acz : uN [] = none:=by simp [uN,cr]
theorem acy {o : Ob} (ho : cy o = true) : uN (kG o) = some o:=by
 have h:=yP ho
 unfold uN kG
 rw [Ga _ _ (Ow h)]
 simp only [Option.bind_some]
 rw [Ox h]
 have h0:=h.t0
 have h1:=h.t1
 have hl:=h.len
 have h4:=h.n4
 have hn : aZ (dM o.t) = some o.t.toNat:=by
  have e : o.t = ((o.t.toNat : Nat) : Int):=by omega
  rw [e,Ot _ (by omega)]
  simp
  omega
 have hd : aZ (aT o.values.length) = some o.values.length:=kF.2 ⟨by omega,rfl⟩
 simp only [j8,Option.bind_some,hn,hd,Option.getD_some]
 rw [Nat.min_eq_left (by omega),PO (fk o.resp) o.values (Qc h)]
 have h2 : cB (fk o.resp) = (o.resp,true):=O0 (cand:=mL) (fun r h=>I5 h) h.resp
 simp only [Option.map_some,h2]
 have ht : ((o.t.toNat : Nat) : Int) = o.t:=by omega
 rw [ht,← h.Qe]
theorem acw (s : ag) : fY s = match uN s with
  | some o=>if dS o = s then (o,true) else (cF,false)
  | none=>(cF,false):=Oy (fun o h=>acy h) acz s
end M
set_option maxHeartbeats 4000000
namespace M
open Go
theorem Ky (s p : ag) (tt : Int) (n : Nat) (hn : n≤1000000) (hs : s.length≤16777216) : ∀ (m i : Nat) (g : List ag) (t : ag),i + m = min n 4→g.length = i→t.length≤s.length→s.drop (s.length - t.length) = t →
  (∀ q,jh m t = some q→aC (ai (ev LI TT) (aj TT) kO) [(0,.str ⟨s.toArray⟩),(2,.ptr .own (bn .own cF)),(5,.int .i64 ((s.length - t.length : Nat) : Int)),(9,.int .i64 n),(11,.ptr .own (bn .own ⟨p,[],g,bX,tt⟩)),(12,.int .i64 i)] = some (.exit 0,[(0,.str ⟨s.toArray⟩),(2,.ptr .own (bn .own cF)),(5,.int .i64 ((s.length - q.2.length : Nat) : Int)),(9,.int .i64 n),(11,.ptr .own (bn .own ⟨p,[],g ++ q.1,bX,tt⟩)),(12,.int .i64 (min n 4 : Nat)),(59,.bool false)])) ∧
  (jh m t = none→∃ g' j,aC (ai (ev LI TT) (aj TT) kO) [(0,.str ⟨s.toArray⟩),(2,.ptr .own (bn .own cF)),(5,.int .i64 ((s.length - t.length : Nat) : Int)),(9,.int .i64 n),(11,.ptr .own (bn .own ⟨p,[],g,bX,tt⟩)),(12,.int .i64 i)] = some (.exit 0,[(0,.str ⟨s.toArray⟩),(2,.ptr .own (bn .own cF)),(5,.int .i64 (-1)),(9,.int .i64 n),(11,.ptr .own (bn .own ⟨p,[],g',bX,tt⟩)),(12,.int .i64 j),(59,.bool false)]))
 | 0,i,g,t,hi,hg,ht,hd=>by
  refine ⟨fun q hq=>?_,fun h=>by simp [jh] at h⟩
  simp [jh] at hq
  subst hq
  have : i = min n 4:=by omega
  rw [← this]
  rw [dy]
  by_cases g1 : (i : Int) < n
  ·have g2 : ¬ (i : Int) < 4:=by omega
   have cO : i < n:=by omega
   have mg : ¬ i < 4:=by omega
   simp -implicitDefEqProofs [kO,qd,bX,cF,g1,g2,cO,mg]
  ·have cO : ¬ i < n:=by omega
   simp -implicitDefEqProofs [kO,qd,bX,cF,g1,cO]
 | m + 1,i,g,t,hi,hg,ht,hd=>by
  have g1 : i < n:=by omega
  have g2 : i < 4:=by omega
  have cO : (i : Int) < n:=by omega
  have mg : (i : Int) < 4:=by omega
  have hw:=aM i (by omega)
  have u1:=AQ s (s.length - t.length) (by omega) (by omega)
  unfold uA uz at u1
  rw [hd] at u1
  have hlz : (g.length + 1) * 16≤140737488355328:=by omega
  have gu : (0 : Int)≤((s.length - t.length : Nat) : Int):=by omega
  obtain ⟨e,he⟩ : ∃ e,s.length - t.length = e:=⟨_,rfl⟩
  rw [jh]
  cases hc : cr 10 t with
  | none =>
   refine ⟨fun q hq=>by simp at hq,fun _=>⟨g ++ [[]],(i + 1 : Nat),?_⟩⟩
   rw [hc] at u1
   rw [he] at u1 gu ⊢
   have hstep : ai (ev LI TT) (aj TT) kO [(0,.str ⟨s.toArray⟩),(2,.ptr .own (bn .own cF)),(5,.int .i64 (e : Int)),(9,.int .i64 n),(11,.ptr .own (bn .own ⟨p,[],g,bX,tt⟩)),(12,.int .i64 i)] = some (.normal,[(0,.str ⟨s.toArray⟩),(2,.ptr .own (bn .own cF)),(5,.int .i64 (-1)),(9,.int .i64 n),(11,.ptr .own (bn .own ⟨p,[],g ++ [[]],bX,tt⟩)),(12,.int .i64 ((i + 1 : Nat) : Int))]):=by
    try simp at u1
    simp -implicitDefEqProofs [kO,qd,bX,cF,g1,g2,cO,mg,hw,u1,hlz,cQ]
   rw [dy,hstep]
   show aC _ _ = _
   rw [dy]
   by_cases g3 : i + 1 < n
   ·have hO : (i : Int) + 1 < n:=by omega
    by_cases g4 : i + 1 < 4
    ·have kr : (i : Int) + 1 < 4:=by omega
     simp -implicitDefEqProofs [kO,qd,bX,cF,g3,hO,g4,kr]
    ·have kr : ¬ (i : Int) + 1 < 4:=by omega
     simp -implicitDefEqProofs [kO,qd,bX,cF,g3,hO,g4,kr]
   ·have hO : ¬ (i : Int) + 1 < n:=by omega
    simp -implicitDefEqProofs [kO,qd,bX,cF,g3,hO]
  | some c =>
   obtain ⟨l,r⟩:=c
   have aX:=qN hc
   simp only at aX
   rw [hc] at u1
   simp only at u1
   have e2 : (s.length - t.length) + (t.length - r.length) = s.length - r.length:=by omega
   have aan : s.drop (s.length - r.length) = r:=by rw [← e2,← List.drop_drop,hd]; exact aX.2.1
   have ih:=Ky s p tt n hn hs m (i + 1) (g ++ [l]) r (by omega) (by simp; omega) (by omega) aan
   obtain ⟨f,hf⟩ : ∃ f,s.length - r.length = f:=⟨_,rfl⟩
   have u2 : ev LI TT 271 [.str ⟨s.toArray⟩,.int .i64 (e : Int)] = some (.au [.str ⟨l.toArray⟩,.int .i64 (f : Int)],[.dead,.dead]):=by
    rw [he] at u1
    have : (s.length : Int) - r.length = (f : Int):=by omega
    first | exact u1 | (simp at u1 ⊢; rw [u1]; simp; omega) | (rw [u1]; simp; omega)
   rw [he] at gu ⊢
   rw [hf] at ih
   have hstep : ai (ev LI TT) (aj TT) kO [(0,.str ⟨s.toArray⟩),(2,.ptr .own (bn .own cF)),(5,.int .i64 (e : Int)),(9,.int .i64 n),(11,.ptr .own (bn .own ⟨p,[],g,bX,tt⟩)),(12,.int .i64 i)] = some (.normal,[(0,.str ⟨s.toArray⟩),(2,.ptr .own (bn .own cF)),(5,.int .i64 (f : Int)),(9,.int .i64 n),(11,.ptr .own (bn .own ⟨p,[],g ++ [l],bX,tt⟩)),(12,.int .i64 ((i + 1 : Nat) : Int))]):=by
    try simp at u2
    simp -implicitDefEqProofs [kO,qd,bX,cF,g1,g2,cO,mg,hw,u2,hlz,cQ]
   refine ⟨fun q hq=>?_,fun hq=>?_⟩
   ·obtain ⟨q',h1,rfl⟩:=Option.map_eq_some_iff.1 hq
    rw [dy,hstep]
    have:=ih.1 q' h1
    rw [List.append_assoc] at this
    exact this
   ·have h1 : jh m r = none:=by simpa using hq
    obtain ⟨g',j,h2⟩:=ih.2 h1
    refine ⟨g',j,?_⟩
    rw [dy,hstep]
    exact h2
theorem U1 (s : ag) (hb : s.length≤16777216) : ev LI TT 170 [.str ⟨s.toArray⟩] = some (.au [.agg (bn .own ((fY s).1)),.bool ((fY s).2)],[.dead]):=by
 rw [aq (b:=qg) (rs:=[.c 2 7 true 116,.t 3]) (n:=1) rfl rfl]
 have u1:=AQ s 0 (by omega) (by omega)
 simp only [uA,uz,List.drop_zero] at u1
 rw [acw]
 have eo : uN s = (cr 10 s).bind fun c=>(j8 (bg 32 c.1)).bind fun w=>(jh (min ((aZ w.2.2).getD 0) 4) c.2).map fun q=>(⟨w.1,fK (cB q.2).1.fields,q.1,(cB q.2).1,(((aZ w.2.1).getD 0 : Nat) : Int)⟩ : Ob):=rfl
 rw [eo]
 clear eo
 cases hc : cr 10 s with
 | none =>
  rw [hc] at u1
  have u2:=sX [] (by simp)
  simp at u1 u2
  simp -implicitDefEqProofs [qg,u1,u2,cF,bX]
 | some c =>
 obtain ⟨l,b⟩:=c
 rw [hc] at u1
 have hd:=qN hc
 simp only at hd
 obtain ⟨d1,d2,d3⟩:=hd
 have u2:=sX l (by omega)
 have hm:=mU 32 l
 have d4 : ¬ (((s.length - b.length : Nat) : Int) < 0):=by omega
 simp only [Option.bind_some] at u1 ⊢
 by_cases h4 : (bg 32 l).length = 4
 rotate_left
 ·have oZ : ¬ (((bg 32 l).length : Int) = 4):=by omega
  have wZ : j8 (bg 32 l) = none:=by unfold j8; split; (rename_i e; rw [e] at h4; simp at h4); rfl
  rw [wZ]
  obtain ⟨e,he⟩ : ∃ e,s.length - b.length = e:=⟨_,rfl⟩
  rw [he] at u1 d4
  try simp at u1 u2
  simp -implicitDefEqProofs [qg,u1,u2,oZ,d4,cF,bX]
 obtain ⟨w0,w1,w2,w3,hw⟩:=Df h4
 rw [hw] at u2 hm ⊢
 have u3:=sV w2 (by have:=hm w2 (by simp); omega)
 have u4:=sV w3 (by have:=hm w3 (by simp); omega)
 have BH:=hm w1 (by simp)
 simp only [j8,Option.bind_some]
 obtain ⟨n,hn⟩ : ∃ n,(aZ w3).getD 0 = n:=⟨_,rfl⟩
 have hnb : n≤1000000:=by
  rw [← hn]
  cases hq : aZ w3 with
  | none=>simp
  | some x=>have:=(kF.1 hq).1; simp; omega
 rw [hn] at u4 ⊢
 obtain ⟨t,ht⟩ : ∃ t,(((aZ w2).getD 0 : Nat) : Int) = t:=⟨_,rfl⟩
 rw [ht] at u3 ⊢
 have u5:=Ky s w1 t n hnb hb (min n 4) 0 [] b (by omega) rfl (by omega) d2
 obtain ⟨e,he⟩ : ∃ e,s.length - b.length = e:=⟨_,rfl⟩
 rw [he] at u1 d4 u5
 cases hq : jh (min n 4) b with
 | none =>
  obtain ⟨g',j,u6⟩:=u5.2 hq
  simp [bX,cF] at u1 u2 u3 u4 u6
  simp -implicitDefEqProofs [qg,u1,u2,u3,u4,u6,d4,cF,bX]
 | some q =>
 have u6:=u5.1 q hq
 have hv:=PR _ _ _ hq
 obtain ⟨vs,rest⟩:=q
 simp only [Option.map_some] at hv u6 ⊢
 have hrl : rest.length≤s.length:=by omega
 have aX : s.drop (s.length - rest.length) = rest:=by
  have e2 : (s.length - b.length) + (b.length - rest.length) = s.length - rest.length:=by omega
  rw [← e2,← List.drop_drop,d2]
  exact hv.2.2.2
 have u7:=U3 rest (by omega)
 have hrw:=I0 rest
 have hvw:=Qf rest
 have hrf : bp (cB rest).1 = wL aJ (cB rest).1.fields + (cB rest).1.body.length:=rfl
 have u8:=Lg (cB rest).1.fields (by omega)
 have hvs : wL wS vs≤4 * (16777216 + 1):=oq (fun v dH=>by have:=hv.2.1 v dH; simp only [wS]; omega) (by omega)
 have u9:=FN ⟨w1,fK (cB rest).1.fields,vs,(cB rest).1,t⟩ (by simp only [aV]; omega)
 generalize fK (cB rest).1.fields = vo at u8 u9 ⊢
 generalize cB rest = rr at u7 u8 u9 ⊢
 obtain ⟨⟨I6,I3,IU⟩,O8⟩:=rr
 simp only at u7 u8 u9 ⊢
 obtain ⟨f,hf⟩ : ∃ f,s.length - rest.length = f:=⟨_,rfl⟩
 rw [hf] at u6 aX
 have d5 : ¬ ((f : Int) < 0):=by omega
 have d6 : (f : Int)≤s.length:=by omega
 have d7 : (s.drop f).take (s.length - f) = s.drop f:=List.take_of_length_le (by simp)
 rw [aX] at d7
 simp only [cF,bX,List.nil_append] at u6 u9 ⊢
 simp at u1 u2 u3 u4 u6 u7 u8
 by_cases gt : dS ⟨w1,vo,vs,⟨I6,I3,IU⟩,t⟩ = s
 ·rw [gt] at u9
  simp at u9
  simp -implicitDefEqProofs [qg,u1,u2,u3,u4,u6,u7,u8,u9,d4,d5,d6,d7,aX,gt,Lib.extract_mk]
 simp at u9
 simp -implicitDefEqProofs [qg,u1,u2,u3,u4,u6,u7,u8,u9,d4,d5,d6,d7,aX,gt,eq_false gt,Lib.extract_mk]
 all_goals (repeat' split) <;> first | rfl | omega | (simp_all; done) | (simp_all; omega) | skip
end M
set_option maxHeartbeats 4000000
namespace M
open Go
theorem pZ {α : Type} (T : List α) (n : Nat) (a : α) (h : T[n]? = some a) (g : α→α) : T.modify n g = T.set n (g a):=by
 apply List.ext_getElem?
 intro j
 rw [List.getElem?_modify,List.getElem?_set]
 by_cases e : n = j
 ·subst e
  obtain ⟨hi,hh⟩:=List.getElem?_eq_some_iff.1 h
  have hg : T[n] = a:=hh
  simp [hg,hi]
 ·simp [e]
theorem qj {α : Type} (T : List α) (n : Nat) (a : α) (g : α→α) : (T.set n a).modify n g = T.set n (g a):=by
 apply List.ext_getElem?
 intro j
 rw [List.getElem?_modify,List.getElem?_set,List.getElem?_set]
 by_cases e : n = j
 ·subst e
  by_cases h : n < T.length <;> simp [h]
 ·simp [e]
def cK (k : Kp) : List X:=[.str ⟨k.obj.path.toArray⟩,.dead,.dead,.int .i64 k.obj.resp.status,.dead,.str ⟨k.obj.resp.body.toArray⟩,.int .i64 k.obj.t,.int .i64 k.at_,.int .i64 k.seq]
theorem aie {α : Type} (w : α→Nat) (l : List α) (i : Nat) (v : α) : wL w (l.set i v)≤wL w l + w v:=by
 unfold wL
 rw [List.length_set]
 induction l generalizing i with
 | nil=>simp
 | cons a l ih =>
  cases i with
  | zero=>simp; omega
  | succ i=>have:=ih i; simp at this ⊢; omega
theorem Gy (k : Nat→Bool) : ∀ (ws : List Wr) (i : Nat) (cs : List ag),wL wS (foldI (fV k) i ws cs)≤wL wS cs + wL bR ws
 | [],i,cs=>by simp [foldI]
 | w :: ws,i,cs=>by
  have h:=Gy k ws (i + 1) (fV k i cs w)
  have h2 : wL wS (fV k i cs w)≤wL wS cs + bR w:=by
   unfold fV
   split
   ·exact aie wS cs _ w.text
   ·omega
  have h3 : wL bR (w :: ws) = bR w + wL bR ws + 1:=by simp [wL]; omega
  rw [foldI]
  omega
theorem Mw (d : aW) : bY (dx d)≤bY d:=by
 have:=Gy (fE [] true) d.pending 0 d.cells
 show wL wS (lD (fE [] true) d.cells d.pending) + wL bR []≤wL wS d.cells + wL bR d.pending
 unfold lD
 have h : wL bR ([] : List Wr) = 0:=rfl
 omega
structure SK (s : Sh) : Prop where
 d : cH s.aL = true
 b : (s.aQ.length : Int)≤5
 n : 5≤s.next∧s.next≤19
 q : 1≤s.seq∧s.seq≤100000
 bs : aI dr s.aQ = true
 os : rQ s.seq s.av = true
theorem Pw {s : Sh} (h : j0 s = true) : SK s:=by
 unfold j0 at h
 simp only [Bool.and_eq_true,decide_eq_true_eq] at h
 exact ⟨h.1.1.1.1.1,h.1.1.1.1.2,h.1.1.1.2,h.1.1.2,h.1.2,h.2⟩
theorem ad9 {s : Sh} (h : j0 s = true) {k : Kp} (hk : k∈s.av) : cy k.obj = true:=by
 unfold j0 at h
 simp only [Bool.and_eq_true] at h
 have:=h.2
 unfold rQ at this
 obtain ⟨i,hi,rfl⟩:=List.getElem_of_mem hk
 have h2:=gV.1 this (s.av[i],i) (List.mem_of_getElem? (i:=i) (by simp [hi]))
 unfold pN at h2
 simp only [Bool.and_eq_true] at h2
 exact h2.1.1.1.1
end M
set_option maxHeartbeats 4000000
namespace M
open Go
theorem Br (d : aW) (a : Int) : (cw d a).length≤bY d:=by
 have hw : bY d = wL wS d.cells + wL bR d.pending:=rfl
 unfold cw
 rw [Gz]
 cases h : d.pending.reverse.find? (fun w=>decide (w.at_ = a)) with
 | none =>
  simp only [Option.elim_none]
  rw [List.getD_eq_getElem?_getD]
  cases h2 : d.cells[a.toNat]? with
  | none=>simp
  | some s=>have:=ew (w:=wS) (List.mem_of_getElem? h2); simp only [wS] at this; simp only [Option.getD_some]; omega
 | some w =>
  have:=List.mem_of_find?_eq_some h
  have:=ew (w:=bR) (List.mem_reverse.1 this)
  simp only [bR] at this
  simp only [Option.elim_some]
  omega
theorem QS (d : aW) (a : Int) (hb : d.pending.length≤9223372036854775807) : aC (ai (ev LI TT) (aj TT) xk) [(0,.ptr .af (bH .af d)),(1,.int .i64 a),(5,.int .i64 (d.pending.length - 1))] =
  (d.pending.reverse.find? (fun w=>decide (w.at_ = a))).elim (some (.exit 0,[(0,.ptr .af (bH .af d)),(1,.int .i64 a),(5,.int .i64 (-1)),(13,.bool false)])) (fun w=>some (.ret,[(4,.str ⟨w.text.toArray⟩)])):=by
 refine abP (f:=ai (ev LI TT) (aj TT) xk) d.pending (fun i=>[(0,.ptr .af (bH .af d)),(1,.int .i64 a),(5,.int .i64 i)]) (fun w=>decide (w.at_ = a)) (fun w=>[(4,.str ⟨w.text.toArray⟩)]) _ (fun i b hi hl=>?_) ?_
 ·have hw : IntKind.i64.wrap ((i : Int) - 1) = i - 1:=bz (by omega) (by omega)
  obtain ⟨_,rfl⟩:=List.getElem?_eq_some_iff.1 hi
  simp -implicitDefEqProofs [xk,Hq,hl,hw]
 ·simp -implicitDefEqProofs [xk,Hq]
theorem KN (d : aW) (a : Int) (hb : d.pending.length≤9223372036854775807) (h0 : 0≤a) (h1 : a < d.cells.length) : ev LI TT 278 [.ptr .af (bH .af d),.int .i64 a] = some (.str ⟨(cw d a).toArray⟩,[.dead,.dead]):=by
 rw [aq (b:=BX) (rs:=[.t 4]) (n:=2) rfl rfl]
 have h:=QS d a hb
 have hw : IntKind.i64.wrap ((d.pending.length : Int) - 1) = d.pending.length - 1:=bz (by omega) (by omega)
 have h2 : a.toNat < d.cells.length:=by omega
 simp at h
 unfold cw; rw [Gz]
 simp -implicitDefEqProofs [BX,hw,h]
 cases d.pending.reverse.find? (fun w=>decide (w.at_ = a)) <;> simp [h0,h2]
theorem RL (d : aW) (a : Int) (hb : d.pending.length≤9223372036854775807) (x : ag) : aC (ai (ev LI TT) (aj TT) zc) [(1,.int .i64 a),(2,.ptr .own (bH .af d)),(5,.str ⟨(x).toArray⟩),(6,.int .i64 0)] = some (.exit 0,[(1,.int .i64 a),(2,.ptr .own (bH .af d)),(5,.str ⟨(((d.pending).foldl (fun out w=>if w.at_ = a then w.text else out) x)).toArray⟩),(6,.int .i64 (d.pending).length),(24,.bool false)]):=by
 refine Dl (f:=ai (ev LI TT) (aj TT) zc) (d.pending) (fun i (x : ag)=>[(1,.int .i64 a),(2,.ptr .own (bH .af d)),(5,.str ⟨(x).toArray⟩),(6,.int .i64 i)]) (fun out w=>if w.at_ = a then w.text else out) (fun x=>[(1,.int .i64 a),(2,.ptr .own (bH .af d)),(5,.str ⟨(x).toArray⟩),(6,.int .i64 (d.pending).length),(24,.bool false)]) (fun _ _=>True) x trivial (fun i b x hi hl _=>?_) (fun _ _ _ _ _=>trivial) (fun x _=>?_)
 ·have hw:=aM i (by first | omega | (simp at hl; omega))
  obtain ⟨_,rfl⟩:=List.getElem?_eq_some_iff.1 hi
  simp -implicitDefEqProofs [zc,Jc,hl,hw]
  split <;> rfl
 ·simp -implicitDefEqProofs [zc,Jc]
theorem K8 (d : aW) (a : Int) (hb : d.pending.length≤9223372036854775807) : ev LI TT 169 [.agg (bH .af d),.int .i64 a] = some (.str ⟨(if cH d = true∧0≤a∧a≤19 then cw d a else []).toArray⟩,[.dead,.dead]):=by
 rw [aq (b:=DR) (rs:=[.t 4]) (n:=2) rfl rfl]
 have h:=fun x=>RL d a hb x
 have h2:=vV d hb
 simp at h h2
 simp -implicitDefEqProofs [DR,h,h2]
 by_cases hc : cH d = true∧0≤a∧a≤19
 ·obtain ⟨g1,g2,g3⟩:=hc
  have g4:=(jU g1).2.1
  have g5 : ¬ (a < 0∨19 < a):=by omega
  have g6 : a.toNat < d.cells.length:=by omega
  simp [g1,g2,g3,g5,g6,h,cw]
 ·by_cases g1 : cH d = true
  ·have g5 : (a < 0∨19 < a):=by false_or_by_contra; exact hc ⟨g1,by omega,by omega⟩
   have g6 : ¬ (0≤a∧a≤19):=by omega
   simp [g1,g5,g6]
  ·simp [g1]
theorem Ll (x : Int) : ev LI TT 357 [.int .i64 x] = some (.bool false,[.dead]):=by
 rw [aq (b:=EX) (rs:=[.t 2]) (n:=1) rfl rfl]
 simp -implicitDefEqProofs [EX]
 all_goals (repeat' split) <;> first | rfl | omega | (simp_all; done) | (simp_all; omega) | skip
def oN (a b : Int) : Int:=if a < b then -1 else if b < a then 1 else 0
theorem Vi (a : Int) (b : Int) : ev LI TT 284 [.int .i64 a,.int .i64 b] = some (.int .i64 (oN a b),[.dead,.dead]):=by
 rw [aq (b:=EW) (rs:=[.t 4]) (n:=2) rfl rfl]
 unfold oN
 by_cases g1 : a < b
 all_goals by_cases g2 : b < a
 all_goals
 have u1:=Ll  a
 try simp at u1
 have u2:=Ll  b
 try simp at u2
 simp -implicitDefEqProofs [EW,u1,u2,g1,g2]
 all_goals (repeat' split) <;> first | rfl | omega | (simp_all; done) | (simp_all; omega) | skip
theorem KV (a b : Kp) : ev LI TT 283 [.agg (aB .af a),.agg (aB .af b)] = some (.int .i64 (oN a.seq b.seq),[.dead,.dead]):=by
 rw [aq (b:=B5) (rs:=[.t 4]) (n:=2) rfl rfl]
 have u1:=Vi  a.seq b.seq
 try simp at u1
 simp -implicitDefEqProofs [B5,u1]
 all_goals (repeat' split) <;> first | rfl | omega | (simp_all; done) | (simp_all; omega) | skip
theorem ad7 {α : Type} (A : List α) (x k : α) (B : List α) (n : Nat) (hn : n = A.length) : ((A ++ x :: k :: B).set (n + 1) x).set n k = A ++ k :: x :: B:=by
 subst hn
 simp [List.set_append]
theorem QI (a b : Int) (fi : Int) (T : List (List X)) (j : Nat) (x k : Kp) (hj : j + 1 < T.length) (hx : T[j] = aB .own x) (hk : T[j + 1] = aB .own k) (hb : T.length≤1073741824) (ha : a = 0) (hlt : k.seq < x.seq) :
  ai (ev LI TT) (aj TT) qp [(0,.ref 100000 []),(1,.int .i64 a),(2,.int .i64 b),(3,.fn 283 []),(8,.int .i64 fi),(9,.int .i64 ((j + 1 : Nat) : Int)),(100000,.row .own 9 T)] = some (.normal,[(0,.ref 100000 []),(1,.int .i64 a),(2,.int .i64 b),(3,.fn 283 []),(8,.int .i64 fi),(9,.int .i64 (j : Nat)),(100000,.row .own 9 ((T.set (j + 1) (aB .own x)).set j (aB .own k)))]):=by
 subst ha
 have hw : IntKind.i64.wrap ((j : Int) + 1 - 1) = j:=by rw [show ((j : Int) + 1 - 1) = j by omega]; exact bz (by omega) (by omega)
 have eE : IntKind.i64.wrap (j : Int) = j:=bz (by omega) (by omega)
 have u1:=KV k x
 have hc : oN k.seq x.seq = -1:=by unfold oN; rw [if_pos hlt]
 rw [hc] at u1
 have hj' : j < T.length:=by omega
 have h0 : (0 : Int) < (j : Int) + 1:=by omega
 have h1 : (0 : Int)≤(j : Int) + 1:=by omega
 have hm:=pZ T (j + 1) _ (List.getElem?_eq_some_iff.2 ⟨hj,hk⟩)
 have hm0:=pZ T j _ (List.getElem?_eq_some_iff.2 ⟨hj',hx⟩)
 have BH : ∀ w g,(T.set j w).modify (j + 1) g = (T.set j w).set (j + 1) (g (aB .own k)):=fun w g=>pZ (T.set j w) (j + 1) _ (by rw [List.getElem?_set_ne (by omega)]; exact List.getElem?_eq_some_iff.2 ⟨hj,hk⟩) g
 have hm2 : ∀ w v g,((T.set j w).set (j + 1) v).modify j g = (T.set (j + 1) v).set j (g w):=fun w v g=>by
  rw [List.set_comm _ _ (by omega : j≠j + 1),qj]
 have ho : aj TT 283 = true:=rfl
 try simp at hx hk u1 hm hm0 BH
 simp -implicitDefEqProofs [qp,E2,sD,vF,sE,vG,vH,hw,eE,hj,hj',hx,hk,u1,h0,h1,ho,tV,hm,hm0,BH,hm2,qj,ghost,wB]
theorem QH (b : Int) (fi : Int) (T : List (List X)) (j : Nat) (x k : Kp) (hj : j + 1 < T.length) (hx : T[j] = aB .own x) (hk : T[j + 1] = aB .own k) (hb : T.length≤1073741824) (hlt : ¬ k.seq < x.seq) :
  ai (ev LI TT) (aj TT) qp [(0,.ref 100000 []),(1,.int .i64 0),(2,.int .i64 b),(3,.fn 283 []),(8,.int .i64 fi),(9,.int .i64 ((j + 1 : Nat) : Int)),(100000,.row .own 9 T)] = some (.exit 2,[(0,.ref 100000 []),(1,.int .i64 0),(2,.int .i64 b),(3,.fn 283 []),(8,.int .i64 fi),(9,.int .i64 ((j + 1 : Nat) : Int)),(34,.bool false),(100000,.row .own 9 T)]):=by
 have eE : IntKind.i64.wrap (j : Int) = j:=bz (by omega) (by omega)
 have u1:=KV k x
 have hc : ¬ oN k.seq x.seq < 0:=by unfold oN; rw [if_neg hlt]; split <;> omega
 obtain ⟨z,hz⟩ : ∃ z,oN k.seq x.seq = z:=⟨_,rfl⟩
 rw [hz] at u1 hc
 have hj' : j < T.length:=by omega
 have h0 : (0 : Int) < (j : Int) + 1:=by omega
 have h1 : (0 : Int)≤(j : Int) + 1:=by omega
 have ho : aj TT 283 = true:=rfl
 try simp at hx hk u1
 simp -implicitDefEqProofs [qp,E2,sD,vF,sE,vG,vH,eE,hj,hj',hx,hk,u1,hc,h0,h1,ho,tV]
theorem QJ (b : Int) (fi : Int) (T : List (List X)) :
  ai (ev LI TT) (aj TT) qp [(0,.ref 100000 []),(1,.int .i64 0),(2,.int .i64 b),(3,.fn 283 []),(8,.int .i64 fi),(9,.int .i64 0),(100000,.row .own 9 T)] = some (.exit 2,[(0,.ref 100000 []),(1,.int .i64 0),(2,.int .i64 b),(3,.fn 283 []),(8,.int .i64 fi),(9,.int .i64 0),(34,.bool false),(100000,.row .own 9 T)]):=by
 simp -implicitDefEqProofs [qp,E2,sD,vF,sE,vG,vH]
theorem Kt (b fi : Int) (k : Kp) (R : List Kp) : ∀ (rev done : List Kp),(rev.length + done.length + R.length + 1≤1073741824)→∃ j : Nat,
  aC (ai (ev LI TT) (aj TT) qp) [(0,.ref 100000 []),(1,.int .i64 0),(2,.int .i64 b),(3,.fn 283 []),(8,.int .i64 fi),(9,.int .i64 (rev.length : Nat)),(100000,.row .own 9 ((rev.reverse ++ k :: (done ++ R)).map (aB .own)))] = some (.exit 2,[(0,.ref 100000 []),(1,.int .i64 0),(2,.int .i64 b),(3,.fn 283 []),(8,.int .i64 fi),(9,.int .i64 (j : Nat)),(34,.bool false),(100000,.row .own 9 ((tU Kp.seq k rev done ++ R).map (aB .own)))])
 | [],done,_=>by
  refine ⟨0,?_⟩
  rw [dy]
  have:=QJ b fi ((k :: (done ++ R)).map (aB .own))
  simp only [List.reverse_nil,List.nil_append,List.length_nil]
  rw [show (((0 : Nat) : Int)) = 0 from rfl,this]
  rfl
 | x :: rev,done,hb=>by
  simp only [List.length_cons] at hb
  have hl : ((x :: rev).reverse ++ k :: (done ++ R)).length = rev.length + done.length + R.length + 2:=by simp; omega
  have e1 : (x :: rev).reverse ++ k :: (done ++ R) = rev.reverse ++ x :: k :: (done ++ R):=by simp
  have hx : ((rev.reverse ++ x :: k :: (done ++ R)).map (aB .own))[rev.length]'(by simp) = aB .own x:=by simp
  have hk : ((rev.reverse ++ x :: k :: (done ++ R)).map (aB .own))[rev.length + 1]'(by simp) = aB .own k:=by simp
  rw [e1,List.length_cons]
  unfold tU
  by_cases g : k.seq < x.seq
  ·rw [if_pos g]
   obtain ⟨j,hj⟩:=Kt b fi k R rev (x :: done) (by simp; omega)
   refine ⟨j,?_⟩
   have hs:=QI 0 b fi ((rev.reverse ++ x :: k :: (done ++ R)).map (aB .own)) rev.length x k (by simp) hx hk (by rw [List.length_map,← e1,hl]; omega) rfl g
   rw [dy,hs]
   have e2 : (((rev.reverse ++ x :: k :: (done ++ R)).map (aB .own)).set (rev.length + 1) (aB .own x)).set rev.length (aB .own k) = (rev.reverse ++ k :: ((x :: done) ++ R)).map (aB .own):=by
    have:=ad7 (rev.reverse.map (aB .own)) (aB .own x) (aB .own k) ((done ++ R).map (aB .own)) rev.length (by simp)
    first | (simp; done) | simpa using this
   rw [e2]
   exact hj
  ·rw [if_neg g]
   refine ⟨rev.length + 1,?_⟩
   have hs:=QH b fi ((rev.reverse ++ x :: k :: (done ++ R)).map (aB .own)) rev.length x k (by simp) hx hk (by rw [List.length_map,← e1,hl]; omega) g
   rw [dy,hs]
   have e2 : (x :: rev).reverse ++ k :: done ++ R = rev.reverse ++ x :: k :: (done ++ R):=by simp
   rw [e2]
   rfl
end M
set_option maxHeartbeats 4000000
namespace M
open Go
theorem Ku (n : Nat) (hn : n≤1073741824) : ∀ (R S : List Kp),p9 Kp.seq S→S.length + R.length = n →
  aC (ai (ev LI TT) (aj TT) sC) [(0,.ref 100000 []),(1,.int .i64 0),(2,.int .i64 n),(3,.fn 283 []),(8,.int .i64 (S.length : Nat)),(100000,.row .own 9 ((S ++ R).map (aB .own)))] = some (.exit 0,[(0,.ref 100000 []),(1,.int .i64 0),(2,.int .i64 n),(3,.fn 283 []),(8,.int .i64 n),(14,.bool false),(100000,.row .own 9 ((R.foldl (fun S k=>dQ Kp.seq k S) S).map (aB .own)))])
 | [],S,ho,hl=>by
  have : S.length = n:=by simpa using hl
  subst this
  rw [dy]
  simp -implicitDefEqProofs [sC,E3]
 | k :: R,S,ho,hl=>by
  simp only [List.length_cons] at hl
  have hlt : S.length < n:=by omega
  have hw:=aM S.length (by omega)
  obtain ⟨j,hj⟩:=Kt n (S.length : Nat) k R S.reverse [] (by simp; omega)
  rw [NK S.reverse [] (by simpa using ho) (by simp)] at hj
  have e1 : S.reverse.reverse ++ k :: ([] ++ R) = S ++ k :: R:=by simp
  have e2 : S.reverse.reverse ++ [] = S:=by simp
  rw [e1,e2,List.length_reverse] at hj
  have hstep : ai (ev LI TT) (aj TT) sC [(0,.ref 100000 []),(1,.int .i64 0),(2,.int .i64 n),(3,.fn 283 []),(8,.int .i64 (S.length : Nat)),(100000,.row .own 9 ((S ++ k :: R).map (aB .own)))] = some (.normal,[(0,.ref 100000 []),(1,.int .i64 0),(2,.int .i64 n),(3,.fn 283 []),(8,.int .i64 ((dQ Kp.seq k S).length : Nat)),(100000,.row .own 9 ((dQ Kp.seq k S ++ R).map (aB .own)))]):=by
   rw [NI]
   try simp at hj
   simp -implicitDefEqProofs [sC,E3,hlt,hw,hj]
  rw [dy,hstep]
  exact Ku n hn R (dQ Kp.seq k S) (NJ ho) (by rw [NI]; omega)
theorem Vo (l : List Kp) (hb : l.length≤1073741824) : ev LI TT 420 [.row .own 9 (l.map (aB .own)),.int .i64 0,.int .i64 l.length,.fn 283 []] = some (.au [],[.row .own 9 ((gb Kp.seq l).map (aB .own)),.dead,.dead,.dead]):=by
 rw [aq (b:=As) (rs:=[]) (n:=4) rfl rfl]
 cases l with
 | nil =>
  have h : aC (ai (ev LI TT) (aj TT) sC) [(0,.ref 100000 []),(1,.int .i64 0),(2,.int .i64 0),(3,.fn 283 []),(8,.int .i64 1),(100000,.row .own 9 [])] = some (.exit 0,[(0,.ref 100000 []),(1,.int .i64 0),(2,.int .i64 0),(3,.fn 283 []),(8,.int .i64 1),(14,.bool false),(100000,.row .own 9 [])]):=by
   rw [dy]
   simp -implicitDefEqProofs [sC,E3]
  have h1 : IntKind.i64.wrap 1 = 1:=bz (by omega) (by omega)
  simp -implicitDefEqProofs [As,h,h1,gb]
 | cons a l =>
 have h:=Ku (a :: l).length hb l [a] (by simp [p9]) (by simp; omega)
 have h1 : IntKind.i64.wrap 1 = 1:=bz (by omega) (by omega)
 have e : gb Kp.seq (a :: l) = l.foldl (fun S k=>dQ Kp.seq k S) [a]:=rfl
 rw [e]
 generalize l.foldl (fun S k=>dQ Kp.seq k S) [a] = Z at h ⊢
 try simp at h
 simp -implicitDefEqProofs [As,h,h1,sD,vF,sE,vG,vH]
 all_goals (repeat' split) <;> first | rfl | omega | (simp_all; done) | (simp_all; omega) | skip
theorem Vp (l : List Kp) (hb : l.length≤15) : ev LI TT 369 [.row .own 9 (l.map (aB .own)),.int .i64 l.length,.fn 283 []] = some (.au [],[.row .own 9 ((gb Kp.seq l).map (aB .own)),.dead,.dead]):=by
 rw [aq (b:=E4) (rs:=[]) (n:=3) rfl rfl]
 have h0 : ¬ (20 : Int)≤l.length:=by omega
 have h0' : ¬ (20 : Int) < l.length:=by omega
 have h1 : aC (ai (ev LI TT) (aj TT) J9) [(0,.ref 100000 []),(1,.int .i64 l.length),(2,.fn 283 []),(6,.int .i64 20),(7,.int .i64 0),(8,.int .i64 20),(100000,.row .own 9 (l.map (aB .own)))] = some (.exit 0,[(0,.ref 100000 []),(1,.int .i64 l.length),(2,.fn 283 []),(6,.int .i64 20),(7,.int .i64 0),(8,.int .i64 20),(13,.bool false),(100000,.row .own 9 (l.map (aB .own)))]):=by
  rw [dy]
  simp -implicitDefEqProofs [J9,Qn,h0]
 have h2 : ∀ Z,aC (ai (ev LI TT) (aj TT) Ka) [(0,.ref 100000 []),(1,.int .i64 l.length),(2,.fn 283 []),(6,.int .i64 20),(100000,.row .own 9 Z)] = some (.exit 2,[(0,.ref 100000 []),(1,.int .i64 l.length),(2,.fn 283 []),(6,.int .i64 20),(30,.bool false),(100000,.row .own 9 Z)]):=by
  intro Z
  rw [dy]
  simp -implicitDefEqProofs [Ka,Qo,h0']
 have h3:=Vo l (by omega)
 try simp at h1 h3
 simp -implicitDefEqProofs [E4,h1,h2,h3]
 all_goals (repeat' split) <;> first | rfl | omega | (simp_all; done) | (simp_all; omega) | skip
theorem Vn (l : List Kp) (hb : l.length≤15) : ev LI TT 282 [.row .own 9 (l.map (aB .own)),.fn 283 []] = some (.au [],[.row .own 9 ((gb Kp.seq l).map (aB .own)),.dead]):=by
 rw [aq (b:=E1) (rs:=[]) (n:=2) rfl rfl]
 have u1:=Vp  l hb
 try simp at u1
 simp -implicitDefEqProofs [E1,u1]
 all_goals (repeat' split) <;> first | rfl | omega | (simp_all; done) | (simp_all; omega) | skip
theorem KW (s : Sh) (n : Int) (hs : 0≤s.seq∧s.seq≤1000000) (hn : 0≤n∧n≤1000000) : ev LI TT 280 [.ptr .own (aH .own s),.int .i64 n] = some (.au [],[.ptr .own (aH .own ⟨s.aL,s.av,s.aQ,s.next,if n < 100000 then max s.seq (n + 1) else s.seq⟩),.dead]):=by
 rw [aq (b:=tN) (rs:=[]) (n:=2) rfl rfl]
 have hw : IntKind.i64.wrap (n + 1) = n + 1:=bz (by omega) (by omega)
 by_cases g : n < 100000
 rotate_left
 ·simp -implicitDefEqProofs [tN,g]
 by_cases g2 : n + 1 > s.seq
 ·have e : max s.seq (n + 1) = n + 1:=by omega
  have g3 : s.seq < n + 1:=by omega
  simp -implicitDefEqProofs [tN,g,g2,g3,hw,e]
 have e : max s.seq (n + 1) = s.seq:=by omega
 have g3 : ¬ s.seq < n + 1:=by omega
 simp -implicitDefEqProofs [tN,g,g2,g3,hw,e]
 all_goals (repeat' split) <;> first | rfl | omega | (simp_all; done) | (simp_all; omega) | skip
theorem DI (s : ag) : 0≤(cg s).1∧(cg s).1≤100000:=by
 cases h : (cg s).2.2
 ·rw [O3 h]; simp
 ·have:=DJ h; omega
theorem Q8 (d : aW) (hd : cH d = true) (hwd : bY d≤16777216) :
  aC (ai (ev LI TT) (aj TT) ry) [(0,.aA 100000 [] 0 0),(8,.int .i64 0),(100000,.ptr .own (aH .own ⟨d,[],[],5,1⟩))] =
  (match cE (iN d) 0 (List.range 5) ([],0) with
   | .inl g=>some (.exit 0,[(0,.aA 100000 [] 0 0),(8,.int .i64 5),(9,.bool false),(100000,.ptr .own (aH .own ⟨d,[],g.1,5,g.2 + 1⟩))])
   | .inr e=>some (.ret,[(0,.aA 100000 [] 0 0),(3,.int .i64 e.2.1),(6,.ptr .own (aS e.2.2.1)),(8,.int .i64 (e.2.2.2 : Nat)),(31,.bool true),(100000,.ptr .own (aH .own ⟨d,[],e.1.1,5,e.1.2 + 1⟩))])):=by
 obtain ⟨k0,k1,k2⟩:=jU hd
 have:=yB (xt:=0) (f:=ai (ev LI TT) (aj TT) ry) (List.range 5) (fun i (g : List Bn×Int)=>[(0,.aA 100000 [] 0 0),(8,.int .i64 i),(100000,.ptr .own (aH .own ⟨d,[],g.1,5,g.2 + 1⟩))]) (iN d)
  (fun g=>[(0,.aA 100000 [] 0 0),(8,.int .i64 5),(9,.bool false),(100000,.ptr .own (aH .own ⟨d,[],g.1,5,g.2 + 1⟩))])
  (fun e=>(.ret,[(0,.aA 100000 [] 0 0),(3,.int .i64 e.2.1),(6,.ptr .own (aS e.2.2.1)),(8,.int .i64 (e.2.2.2 : Nat)),(31,.bool true),(100000,.ptr .own (aH .own ⟨d,[],e.1.1,5,e.1.2 + 1⟩))]))
  (fun i g=>(∀ b∈g.1,dr b = true)∧g.1.length≤i∧0≤g.2∧g.2 < 100000) ([],0) (by simp) (fun i b g hi hl hg=>?_) (fun i b g g' hi hg fS=>(Dp d hg).1 g' fS) (fun g hg=>?_)
 ·refine Eq.trans ?_ (this.trans ?_)
  ·simp
  ·cases cE (iN d) 0 (List.range 5) ([],0) with
   | inl g=>rfl
   | inr e=>rfl
 ·have qU : i < 5:=by simpa using hl
  have dP : (i : Int) < 5:=by omega
  have hw:=aM i (by omega)
  have u1:=KN d i (by omega) (by omega) (by omega)
  have GZ:=Br d i
  have u2:=KR (cw d i) (by omega)
  have hrl:=DH (cw d i)
  have lf:=DI (cw d i)
  have u3:=Tj (cg (cw d i)).2.1 (by omega)
  have hlz : (g.1.length + 1) * 48≤140737488355328:=by omega
  unfold iN
  generalize cg (cw d i) = rr at u2 u3 hrl lf ⊢
  obtain ⟨n,bd,ok⟩:=rr
  simp only at u2 u3 hrl lf ⊢
  generalize fA bd = br at u3 ⊢
  obtain ⟨⟨bk,ba,bb,bt⟩,qC⟩:=br
  have u4:=KW ⟨d,[],g.1 ++ [⟨bk,ba,bb,bt⟩],5,g.2 + 1⟩ n (by simp only; omega) (by omega)
  have qX : (if n < 100000 then max (g.2 + 1) (n + 1) else g.2 + 1) = rM g.2 n + 1:=by unfold rM; split <;> omega
  simp only [qX] at u4
  simp at u1 u2 u3 u4
  cases ok
  ·simp -implicitDefEqProofs [ry,xC,tL,tM,dP,hw,u1,u2,u3,lv]
  cases qC
  ·simp -implicitDefEqProofs [ry,xC,tL,tM,dP,hw,u1,u2,u3,lv]
  simp -implicitDefEqProofs [ry,xC,tL,tM,dP,hw,u1,u2,u3,u4,lv,hlz,cQ]
 ·simp -implicitDefEqProofs [ry,xC]
theorem TG (d : aW) (hd : cH d = true) (hwd : bY d≤16777216) : ev LI TT 179 [.ptr .own (aH .own ⟨d,[],[],5,1⟩)] = some (.au [],[.ptr .own (aH .own ⟨d,[],(cP d).1,5,(cP d).2 + 1⟩)]):=by
 rw [aq (b:=xD) (rs:=[]) (n:=1) rfl rfl]
 have u1:=Q8  d hd hwd
 try simp at u1
 unfold cP
 cases hr : cE (iN d) 0 (List.range 5) ([],0) with
 | inl g=>rw [hr] at u1; simp at u1; simp -implicitDefEqProofs [xD,u1,vU]
 | inr e =>
 rw [hr] at u1
 simp at u1
 simp -implicitDefEqProofs [xD,u1,u1,vU,tL,tM]
 all_goals (repeat' split) <;> first | rfl | omega | (simp_all; done) | (simp_all; omega) | skip
theorem Sb (d : aW) (hd : cH d = true) (hwd : bY d≤16777216) :
  aC (ai (ev LI TT) (aj TT) qh) [(1,.ptr .own (bH .af d)),(4,.row .own 4 []),(5,.int .i64 0),(6,.int .i64 0)] =
  (match cE (iN d) 0 (List.range 5) ([],0) with
   | .inl g=>some (.exit 0,[(1,.ptr .own (bH .af d)),(4,.row .own 4 (g.1.map aS)),(5,.int .i64 g.2),(6,.int .i64 5),(14,.bool false)])
   | .inr e=>some (.ret,[(2,.row .own 4 (e.1.1.map aS)),(3,.int .i64 e.1.2),(4,.dead)])):=by
 obtain ⟨k0,k1,k2⟩:=jU hd
 have:=yB (xt:=0) (f:=ai (ev LI TT) (aj TT) qh) (List.range 5) (fun i (g : List Bn×Int)=>[(1,.ptr .own (bH .af d)),(4,.row .own 4 (g.1.map aS)),(5,.int .i64 g.2),(6,.int .i64 i)]) (iN d)
  (fun g=>[(1,.ptr .own (bH .af d)),(4,.row .own 4 (g.1.map aS)),(5,.int .i64 g.2),(6,.int .i64 5),(14,.bool false)])
  (fun e=>(.ret,[(2,.row .own 4 (e.1.1.map aS)),(3,.int .i64 e.1.2),(4,.dead)]))
  (fun i g=>(∀ b∈g.1,dr b = true)∧g.1.length≤i∧0≤g.2∧g.2 < 100000) ([],0) (by simp) (fun i b g hi hl hg=>?_) (fun i b g g' hi hg fS=>(Dp d hg).1 g' fS) (fun g hg=>?_)
 ·refine Eq.trans ?_ (this.trans ?_)
  ·simp
  ·cases cE (iN d) 0 (List.range 5) ([],0) with
   | inl g=>rfl
   | inr e=>rfl
 ·have qU : i < 5:=by simpa using hl
  have dP : (i : Int) < 5:=by omega
  have hw:=aM i (by omega)
  have u1:=K8 d i (by omega)
  have hin : cH d = true∧(0 : Int)≤i∧(i : Int)≤19:=⟨hd,by omega,by omega⟩
  rw [if_pos hin] at u1
  have GZ:=Br d i
  have u2:=Lc (cw d i) (by omega)
  have hrl:=DH (cw d i)
  have lf:=DI (cw d i)
  have u3:=UO (cg (cw d i)).2.1 (by omega)
  have hlz : (g.1.length + 1) * 48≤140737488355328:=by omega
  unfold iN
  generalize cg (cw d i) = rr at u2 u3 hrl lf ⊢
  obtain ⟨n,bd,ok⟩:=rr
  simp only at u2 u3 hrl lf ⊢
  generalize fA bd = br at u3 ⊢
  obtain ⟨⟨bk,ba,bb,bt⟩,qC⟩:=br
  have wT : max g.2 n = if n < g.2 then g.2 else n:=by split <;> omega
  simp at u1 u2 u3
  cases ok
  ·simp -implicitDefEqProofs [qh,va,dP,hw,u1,u2,u3,lv]
  cases qC
  ·simp -implicitDefEqProofs [qh,va,dP,hw,u1,u2,u3,lv]
  by_cases gq : n < 100000
  ·simp -implicitDefEqProofs [qh,va,dP,hw,u1,u2,u3,lv,hlz,cQ,gq,rM,wT]
  ·simp -implicitDefEqProofs [qh,va,dP,hw,u1,u2,u3,lv,hlz,cQ,gq,rM]
 ·simp -implicitDefEqProofs [qh,va]
theorem U9 (d : aW) (hd : cH d = true) (hwd : bY d≤16777216) : ev LI TT 167 [.agg (bH .af d)] = some (.au [.row .own 4 ((cP d).1.map aS),.int .i64 (cP d).2],[.dead]):=by
 rw [aq (b:=zJ) (rs:=[.t 2,.t 3]) (n:=1) rfl rfl]
 have u1:=Sb  d hd hwd
 try simp at u1
 unfold cP
 cases hr : cE (iN d) 0 (List.range 5) ([],0) with
 | inl g=>rw [hr] at u1; simp at u1; simp -implicitDefEqProofs [zJ,u1,vU]
 | inr e =>
 rw [hr] at u1
 simp at u1
 simp -implicitDefEqProofs [zJ,u1,u1,vU]
 all_goals (repeat' split) <;> first | rfl | omega | (simp_all; done) | (simp_all; omega) | skip
end M
set_option maxHeartbeats 4000000
namespace M
open Go
theorem Iv (d : aW) : wL aR (cP d).1≤1000:=by
 have:=pV d
 have:=oq (w:=aR) (n:=120) (m:=5) (l:=(cP d).1) (fun b hb=>S2 (this.1 b hb)) this.2.1
 omega
theorem Q9 (d : aW) (bs : List Bn) (m : Int) (hd : cH d = true) (hwd : bY d≤16777216) (GN : wL aR bs≤1000) (hm : 0≤m∧m < 100000) :
  aC (ai (ev LI TT) (aj TT) nK) [(0,.aA 100000 [] 0 0),(3,.row .own 9 []),(4,.int .i64 5),(100000,.ptr .own (aH .own ⟨d,[],bs,5,m + 1⟩))] =
  some (.exit 0,[(0,.aA 100000 [] 0 0),(3,.row .own 9 ((jS bs d m).1.map (aB .own))),(4,.int .i64 20),(11,.bool false),(100000,.ptr .own (aH .own ⟨d,[],bs,5,(jS bs d m).2 + 1⟩))]):=by
 obtain ⟨k0,k1,k2⟩:=jU hd
 have:=gw (xt:=0) (f:=ai (ev LI TT) (aj TT) nK) (List.range 15) (fun i (g : List Kp×Int)=>[(0,.aA 100000 [] 0 0),(3,.row .own 9 (g.1.map (aB .own))),(4,.int .i64 ((5 + i : Nat) : Int)),(100000,.ptr .own (aH .own ⟨d,[],bs,5,g.2 + 1⟩))]) (pY bs d)
  (fun g=>[(0,.aA 100000 [] 0 0),(3,.row .own 9 (g.1.map (aB .own))),(4,.int .i64 20),(11,.bool false),(100000,.ptr .own (aH .own ⟨d,[],bs,5,g.2 + 1⟩))])
  (fun i g=>i≤15∧qv i g) ([],m) ⟨by omega,⟨by simp,by simp,hm,by simp,by simp,by simp⟩⟩ (fun i b g hi hl hg=>?_) (fun i b g hi hg=>?_) (fun g hg=>?_)
 ·refine Eq.trans ?_ this
  simp
 ·have qU : i < 15:=by simpa using hl
  obtain ⟨at_,gu⟩ : ∃ a,((5 + i : Nat) : Int) = a:=⟨_,rfl⟩
  have dP : at_ < 20:=by omega
  have hw : IntKind.i64.wrap (at_ + 1) = at_ + 1:=bz (by omega) (by omega)
  have BD : ((5 + (i + 1) : Nat) : Int) = at_ + 1:=by omega
  have u1:=KN d at_ (by omega) (by omega) (by omega)
  have GZ:=Br d at_
  have u2:=KR (cw d at_) (by omega)
  have hrl:=DH (cw d at_)
  have lf:=DI (cw d at_)
  have u3:=Tz (cg (cw d at_)).2.1 (by omega)
  have how:=OA (cg (cw d at_)).2.1
  have kz:=hg.2.n
  have hlz : (g.1.length + 1) * 136≤140737488355328:=by omega
  have hgm:=hg.2.m
  unfold pY
  rw [gu,BD]
  generalize cg (cw d at_) = rr at u2 u3 hrl lf how ⊢
  obtain ⟨n,bd,ok⟩:=rr
  simp only at u2 u3 hrl lf how ⊢
  generalize fY bd = br at u3 how ⊢
  obtain ⟨⟨op,on,ov,⟨rs,rf,rb⟩,ot⟩,qC⟩:=br
  simp only at how
  have u4:=KW ⟨d,[],bs,5,g.2 + 1⟩ n (by simp only; omega) (by omega)
  have u5:=Tw bs ⟨op,on,ov,⟨rs,rf,rb⟩,ot⟩ (by omega) (by omega)
  simp only at u5 ⊢
  generalize nA bs ⟨op,on,ov,⟨rs,rf,rb⟩,ot⟩ = hb at u5 ⊢
  simp at u1 u2 u3
  cases ok
  ·simp -implicitDefEqProofs [nK,rz,dP,hw,u1,u2,u3,lv]
  cases qC
  ·simp -implicitDefEqProofs [nK,rz,dP,hw,u1,u2,u3,lv]
  by_cases gq : n < 100000
  rotate_left
  ·have nq : 100000≤n:=by omega
   simp -implicitDefEqProofs [nK,rz,dP,hw,u1,u2,u3,lv,gq,nq]
  have nq : ¬ 100000≤n:=by omega
  have qX : (if n < 100000 then max (g.2 + 1) (n + 1) else g.2 + 1) = max g.2 n + 1:=by rw [if_pos gq]; omega
  simp only [qX] at u4
  simp at u4 u5
  cases hb
  ·simp -implicitDefEqProofs [nK,rz,dP,hw,u1,u2,u3,u4,u5,lv,hlz,cQ,gq,nq]
  ·simp -implicitDefEqProofs [nK,rz,dP,hw,u1,u2,u3,u4,u5,lv,gq,nq]
 ·have qU : i < 15:=by have:=(List.getElem?_eq_some_iff.1 hi).1; simpa using this
  exact ⟨by omega,Iz bs d qU b hg.2⟩
 ·simp -implicitDefEqProofs [nK,rz]
theorem TH (d : aW) (bs : List Bn) (m : Int) (hd : cH d = true) (hwd : bY d≤16777216) (GN : wL aR bs≤1000) (hm : 0≤m∧m < 100000) : ev LI TT 180 [.ptr .own (aH .own ⟨d,[],bs,5,m + 1⟩)] = some (.row .own 9 ((gb Kp.seq (jS bs d m).1).map (aB .own)),[.ptr .own (aH .own ⟨d,[],bs,5,(jS bs d m).2 + 1⟩)]):=by
 rw [aq (b:=B6) (rs:=[.t 2]) (n:=1) rfl rfl]
 have u1:=Q9  d bs m hd hwd GN hm
 try simp at u1
 have u2:=Vn  (jS bs d m).1 (abQ bs d m hm)
 try simp at u2
 simp -implicitDefEqProofs [B6,u1,u2]
 all_goals (repeat' split) <;> first | rfl | omega | (simp_all; done) | (simp_all; omega) | skip
theorem TQ (x k : Kp) (hx : aV x.obj≤1073741824) (hk : aV k.obj≤1073741824) : ev LI TT 182 [.agg (aB .af x),.ptr .af (aB .af k)] = some (.bool (decide (x.seq = k.seq) || iS x.obj k.obj),[.dead,.dead]):=by
 rw [aq (b:=Cu) (rs:=[.t 3]) (n:=2) rfl rfl]
 have u1:=K2  x.obj k.obj hx hk
 try simp at u1
 by_cases g : x.seq = k.seq
 all_goals
 simp -implicitDefEqProofs [Cu,u1,g]
 all_goals (repeat' split) <;> first | rfl | omega | (simp_all; done) | (simp_all; omega) | skip
theorem Q7 (d : aW) (bs : List Bn) (sq : Int) (all : List Kp) (nB : all.length≤15) (hall : ∀ k∈all,sG k) :
  aC (ai (ev LI TT) (aj TT) tR) [(2,.ptr .own (aH .own ⟨⟨[],[]⟩,[],[],0,0⟩)),(3,.ptr .own (aH .own ⟨d,[],bs,5,sq⟩)),(4,.row .own 9 (all.map (aB .own))),(12,.ref 4 []),(13,.int .i64 all.length),(14,.int .i64 0)] =
  some (.exit 0,[(2,.ptr .own (aH .own ⟨⟨[],[]⟩,[],[],0,0⟩)),(3,.ptr .own (aH .own ⟨d,(jz all).1,bs,(jz all).2,sq⟩)),(4,.row .own 9 (all.map cK)),(12,.ref 4 []),(13,.int .i64 all.length),(14,.int .i64 all.length),(15,.bool false)]):=by
 have:=gw (xt:=0) (f:=ai (ev LI TT) (aj TT) tR) all (fun i (g : List Kp×Int)=>[(2,.ptr .own (aH .own ⟨⟨[],[]⟩,[],[],0,0⟩)),(3,.ptr .own (aH .own ⟨d,g.1,bs,g.2,sq⟩)),(4,.row .own 9 ((all.take i).map cK ++ (all.drop i).map (aB .own))),(12,.ref 4 []),(13,.int .i64 all.length),(14,.int .i64 i)]) (lH all)
  (fun g=>[(2,.ptr .own (aH .own ⟨⟨[],[]⟩,[],[],0,0⟩)),(3,.ptr .own (aH .own ⟨d,g.1,bs,g.2,sq⟩)),(4,.row .own 9 (all.map cK)),(12,.ref 4 []),(13,.int .i64 all.length),(14,.int .i64 all.length),(15,.bool false)])
  (fun i g=>g.1.length≤i) ([],5) (by simp) (fun i b g hi hl hg=>?_) (fun i b g hi hg=>?_) (fun g hg=>?_)
 ·rw [NW] at this
  refine Eq.trans ?_ this
  simp
 ·obtain ⟨_,rfl⟩:=List.getElem?_eq_some_iff.1 hi
  have hw:=aM i (by omega)
  have hlz : (g.1.length + 1) * 136≤140737488355328:=by omega
  obtain ⟨T,hT⟩ : ∃ T,(all.take i).map cK ++ (all.drop i).map (aB .own) = T:=⟨_,rfl⟩
  have hk:=hall _ (List.getElem_mem hl)
  have u1:=FW (all.drop (i + 1)) all[i] 182 (fun x=>decide (x.seq = (all[i]).seq) || iS x.obj (all[i]).obj) rfl (fun x hx=>TQ x all[i] (by have:=uM (hall x (List.mem_of_mem_drop hx)).o; omega) (by have:=uM hk.o; omega)) (by simp; omega)
  have u2:=TL (all[i]).at_ hk.a
  have hlb : mC all i all[i] = !aI (fun x=>!(decide (x.seq = (all[i]).seq) || iS x.obj (all[i]).obj)) (all.drop (i + 1)):=by
   unfold mC aI
   rw [List.all_eq_not_any_not]
   simp
  have qR : T.length = all.length:=by rw [← hT]; simp; omega
  have gI : i < T.length:=by omega
  have e : all.drop i = all[i] :: all.drop (i + 1):=List.drop_eq_getElem_cons hl
  have pq : ((all.take i).map cK).length = i:=by rw [List.length_map,List.length_take]; omega
  have iH : T[i] = aB .own all[i]:=by
   have h2 : T[i]? = some (aB .own all[i]):=by
    rw [← hT,List.getElem?_append_right (by omega),pq,Nat.sub_self,e]
    rfl
   exact (List.getElem?_eq_some_iff.1 h2).2
  have M4 : T.set i (cK all[i]) = (all.take (i + 1)).map cK ++ (all.drop (i + 1)).map (aB .own):=by
   rw [← hT,List.set_append_right _ _ (by omega),pq,Nat.sub_self,e,List.map_cons,List.set_cons_zero,List.take_succ_eq_append_getElem hl,List.map_append,List.append_assoc]
   rfl
  have hml : ∀ (l : List (List X)),X.bO .af l = l.map (X.dz .af):=fun l=>by
   induction l with
   | nil=>rfl
   | cons a l ih=>simp [X.bO,ih]
  have jw : ((X.bO .af (T.set i (cK all[i]))).take all.length).drop (i + 1) = (all.map (aB .af)).drop (i + 1):=by
   have hd1 : (((all.take (i + 1)).map cK).map (X.dz .af)).length = i + 1:=by rw [List.length_map,List.length_map,List.length_take]; omega
   rw [List.take_of_length_le (by rw [hml,List.length_map,List.length_set]; omega),M4,hml,List.map_append]
   rw [List.drop_left' hd1,List.map_map,← List.map_drop]
   apply List.map_congr_left
   intro x _
   simp
  have hm:=pZ T i _ (List.getElem?_eq_some_iff.2 ⟨gI,iH⟩)
  rw [hT,← M4]
  unfold lH
  rw [hlb]
  generalize aI (fun x=>!(decide (x.seq = (all[i]).seq) || iS x.obj (all[i]).obj)) (all.drop (i + 1)) = q at u1 ⊢
  have dP : (i : Int) < all.length:=by omega
  have BO : (i : Int) + 1≤all.length:=by omega
  have hc0 : (0 : Int)≤(i : Int) + 1:=by omega
  have ho : aj TT 182 = true:=rfl
  have htk : T.take all.length = T:=List.take_of_length_le (by omega)
  rw [← qR] at htk
  try simp [cK] at u1 u2 iH hm jw
  cases q
  ·simp -implicitDefEqProofs [tR,Cv,hl,dP,hw,gI,qR,iH,hm,jw,BO,hc0,u1,u2,qj,iQ,fH,eM,cQ,hlz,cK,htk]
  ·simp -implicitDefEqProofs [tR,Cv,hl,dP,hw,gI,qR,iH,hm,jw,BO,hc0,u1,u2,qj,iQ,fH,eM,cQ,hlz,cK,htk]
 ·unfold lH
  split
  ·omega
  ·simp; omega
 ·simp -implicitDefEqProofs [tR,Cv]
end M
set_option maxHeartbeats 4000000
namespace M
open Go
def JE : Sh:=⟨⟨List.replicate 20 [],[]⟩,[],[],5,1⟩
theorem UU  : ev LI TT 269 [] = some (.agg (bH .own ⟨List.replicate 20 [],[]⟩),[]):=by
 rw [aq (b:=DS) (rs:=[.c 0 2 true 38]) (n:=0) rfl rfl]
 simp -implicitDefEqProofs [DS]
 all_goals (repeat' split) <;> first | rfl | omega | (simp_all; done) | (simp_all; omega) | skip
theorem U4  : ev LI TT 166 [] = some (.agg (aH .own JE),[]):=by
 rw [aq (b:=D9) (rs:=[.c 0 6 true 42]) (n:=0) rfl rfl]
 have u1:=UU
 try simp at u1
 simp -implicitDefEqProofs [D9,u1,JE]
 all_goals (repeat' split) <;> first | rfl | omega | (simp_all; done) | (simp_all; omega) | skip
theorem K4 (d : aW) (hd : cH d = true) (hwd : bY d≤16777216) : ev LI TT 77 [.agg (bH .own d)] = some (.agg (aH .own (dZ d)),[.dead]):=by
 rw [aq (b:=Cw) (rs:=[.c 2 6 true 42]) (n:=1) rfl rfl]
 have B:=pV d
 have O:=yC d
 have u1:=TG d hd hwd
 have u2:=TH d (cP d).1 (cP d).2 hd hwd (Iv d) B.2.2
 have u3:=Q7 d (cP d).1 ((ij d).2 + 1) (fX d) (Iu d) (fun k hk=>(Dn hk).1)
 rw [show jS (cP d).1 d (cP d).2 = ij d from rfl,show gb Kp.seq (ij d).1 = fX d from rfl] at u2
 have e : dZ d = ⟨d,(jz (fX d)).1,(cP d).1,(jz (fX d)).2,(ij d).2 + 1⟩:=rfl
 rw [e]
 clear e B O
 generalize jz (fX d) = lk at u3 ⊢
 generalize fX d = all at u2 u3
 generalize ij d = od at u2 u3 ⊢
 generalize cP d = mb at u1 u2 u3 ⊢
 obtain ⟨av,nx⟩:=lk
 obtain ⟨od1,od2⟩:=od
 obtain ⟨bs,ms⟩:=mb
 simp at u1 u2 u3
 simp -implicitDefEqProofs [Cw,u1,u2,u3]
 all_goals (repeat' split) <;> first | rfl | omega | (simp_all; done) | (simp_all; omega) | skip
noncomputable def uG (d : aW) : Sh:=if cH d = true then dZ d else JE
theorem NF {α : Type} (q : α→Int) (k : α) : ∀ (l : List α) (g : List α×Bool),(l.foldl (iK q k) g).1.length≤g.1.length + 2 * l.length
 | [],g=>by simp
 | x :: l,g=>by
  rw [List.foldl_cons]
  have h:=NF q k l (iK q k g x)
  have h2 : (iK q k g x).1.length≤g.1.length + 2:=by unfold iK; (try dsimp only); split <;> simp
  simp only [List.length_cons]
  omega
theorem Au {n m : Nat} (h : n≤m) (hm : m≤100000:=by decide) : (n + 1) * 136≤140737488355328:=by omega
theorem E6 {i n : Nat} (h : i < n) (hb : n≤1000) : i < 9223372036854775807:=by omega
theorem SH (T : List (List X)) (n i : Nat) (k x : Kp) (out : List Kp) (gI : i < T.length) (hb : T.length≤1000) (iH : T[i] = aB .own x) (ho : out.length≤1000) (hq : k.seq < x.seq) :
  ai (ev LI TT) (aj TT) mT [(0,.ref 100000 []),(3,.ptr .own (aB .own k)),(5,.row .own 9 (out.map (aB .own))),(6,.bool false),(7,.int .i64 i),(100000,.row .own 9 T)] = some (.normal,[(0,.ref 100000 []),(3,.ptr .own (cK k)),(5,.row .own 9 ((out ++ [k,x]).map (aB .own))),(6,.bool true),(7,.int .i64 ((i + 1 : Nat) : Int)),(100000,.row .own 9 (T.set i (cK x)))]):=by
 have hz1:=Au ho
 have hz2:=Au (Nat.succ_le_succ ho)
 have o7 : (i : Int) < T.length:=Int.ofNat_lt.2 gI
 have hw:=aM i (E6 gI hb)
 have hm:=pZ T i _ (List.getElem?_eq_some_iff.2 ⟨gI,iH⟩)
 try simp at iH hm
 simp -implicitDefEqProofs [mT,zK,gI,o7,iH,hm,qj,hz1,hz2,hq,hw,cQ,cK]
theorem SI (T : List (List X)) (n i : Nat) (k x : Kp) (out : List Kp) (gI : i < T.length) (hb : T.length≤1000) (iH : T[i] = aB .own x) (ho : out.length≤1000) (hq : ¬ k.seq < x.seq) :
  ai (ev LI TT) (aj TT) mT [(0,.ref 100000 []),(3,.ptr .own (aB .own k)),(5,.row .own 9 (out.map (aB .own))),(6,.bool false),(7,.int .i64 i),(100000,.row .own 9 T)] = some (.normal,[(0,.ref 100000 []),(3,.ptr .own (aB .own k)),(5,.row .own 9 ((out ++ [x]).map (aB .own))),(6,.bool false),(7,.int .i64 ((i + 1 : Nat) : Int)),(100000,.row .own 9 (T.set i (cK x)))]):=by
 have hz1:=Au ho
 have o7 : (i : Int) < T.length:=Int.ofNat_lt.2 gI
 have hw:=aM i (E6 gI hb)
 have hm:=pZ T i _ (List.getElem?_eq_some_iff.2 ⟨gI,iH⟩)
 try simp at iH hm
 simp -implicitDefEqProofs [mT,zK,gI,o7,iH,hm,qj,hz1,hq,hw,cQ,cK]
theorem SJ (T : List (List X)) (n i : Nat) (k x : Kp) (out : List Kp) (gI : i < T.length) (hb : T.length≤1000) (iH : T[i] = aB .own x) (ho : out.length≤1000) :
  ai (ev LI TT) (aj TT) mT [(0,.ref 100000 []),(3,.ptr .own (cK k)),(5,.row .own 9 (out.map (aB .own))),(6,.bool true),(7,.int .i64 i),(100000,.row .own 9 T)] = some (.normal,[(0,.ref 100000 []),(3,.ptr .own (cK k)),(5,.row .own 9 ((out ++ [x]).map (aB .own))),(6,.bool true),(7,.int .i64 ((i + 1 : Nat) : Int)),(100000,.row .own 9 (T.set i (cK x)))]):=by
 have hz1:=Au ho
 have o7 : (i : Int) < T.length:=Int.ofNat_lt.2 gI
 have hw:=aM i (E6 gI hb)
 have hm:=pZ T i _ (List.getElem?_eq_some_iff.2 ⟨gI,iH⟩)
 try simp at iH hm
 simp -implicitDefEqProofs [mT,zK,gI,o7,iH,hm,qj,hz1,hw,cQ,cK]
theorem adT (l : List Kp) (i : Nat) (hl : i < l.length) (hb : l.length≤15) : ((l.take i).map cK ++ (l.drop i).map (aB .own)).length = l.length∧((l.take i).map cK ++ (l.drop i).map (aB .own))[i]? = some (aB .own l[i])∧((l.take i).map cK ++ (l.drop i).map (aB .own)).set i (cK l[i]) = (l.take (i + 1)).map cK ++ (l.drop (i + 1)).map (aB .own):=by
 have e : l.drop i = l[i] :: l.drop (i + 1):=List.drop_eq_getElem_cons hl
 have pq : ((l.take i).map cK).length = i:=by rw [List.length_map,List.length_take]; omega
 refine ⟨by simp; omega,?_,?_⟩
 ·rw [List.getElem?_append_right (by omega),pq,Nat.sub_self,e]
  rfl
 ·rw [List.set_append_right _ _ (by omega),pq,Nat.sub_self,e,List.map_cons,List.set_cons_zero,List.take_succ_eq_append_getElem hl,List.map_append,List.append_assoc]
  rfl
def og (k : Kp) (b : Bool) : List X:=if b = true then cK k else aB .own k
theorem aea (ks : List Nat) (k : Kp) (b : Bool) : X.mH ks (og k b) = og k b:=by cases b <;> simp [og,cK]
theorem Sc (l : List Kp) (k : Kp) (nB : l.length≤15) :
  aC (ai (ev LI TT) (aj TT) mT) [(0,.ref 100000 []),(3,.ptr .own (aB .own k)),(5,.row .own 9 []),(6,.bool false),(7,.int .i64 0),(100000,.row .own 9 (l.map (aB .own)))] = some (.exit 0,[(0,.ref 100000 []),(3,.ptr .own (og k (l.foldl (iK Kp.seq k) ([],false)).2)),(5,.row .own 9 ((l.foldl (iK Kp.seq k) ([],false)).1.map (aB .own))),(6,.bool (l.foldl (iK Kp.seq k) ([],false)).2),(7,.int .i64 l.length),(12,.bool false),(100000,.row .own 9 (l.map cK))]):=by
 have:=gw (xt:=0) (f:=ai (ev LI TT) (aj TT) mT) l (fun i (g : List Kp×Bool)=>[(0,.ref 100000 []),(3,.ptr .own (og k g.2)),(5,.row .own 9 (g.1.map (aB .own))),(6,.bool g.2),(7,.int .i64 i),(100000,.row .own 9 ((l.take i).map cK ++ (l.drop i).map (aB .own)))]) (fun _ g x=>iK Kp.seq k g x)
  (fun g=>[(0,.ref 100000 []),(3,.ptr .own (og k g.2)),(5,.row .own 9 (g.1.map (aB .own))),(6,.bool g.2),(7,.int .i64 l.length),(12,.bool false),(100000,.row .own 9 (l.map cK))])
  (fun i g=>g.1.length≤2 * i) ([],false) (by simp) (fun i b g hi hl hg=>?_) (fun i b g hi hg=>?_) (fun g hg=>?_)
 ·rw [Gx] at this
  refine Eq.trans ?_ this
  simp [og]
 ·obtain ⟨_,rfl⟩:=List.getElem?_eq_some_iff.1 hi
  obtain ⟨r1,r2,r3⟩:=adT l i hl nB
  rw [← r3]
  generalize (l.take i).map cK ++ (l.drop i).map (aB .own) = T at r1 r2 ⊢
  obtain ⟨q1,q2⟩:=List.getElem?_eq_some_iff.1 r2
  obtain ⟨out,pt⟩:=g
  simp only at hg
  unfold iK og
  cases pt
  ·by_cases hq : k.seq < (l[i]).seq
   ·have:=SH T 0 i k l[i] out q1 (by omega) q2 (by omega) hq
    simp only [hq,Bool.false_eq_true,if_false,and_self,if_true,decide_true,Bool.or_true]
    exact this
   ·have:=SI T 0 i k l[i] out q1 (by omega) q2 (by omega) hq
    simp only [hq,Bool.false_eq_true,if_false,and_false,decide_false,Bool.or_false]
    exact this
  ·have:=SJ T 0 i k l[i] out q1 (by omega) q2 (by omega)
   simp only [Bool.true_eq_false,if_false,if_true,false_and,Bool.true_or]
   exact this
 ·unfold iK
  simp only
  split <;> simp <;> omega
 ·simp -implicitDefEqProofs [mT,zK,aea]
theorem Va (l : List Kp) (k : Kp) (nB : l.length≤15) : ev LI TT 173 [.row .own 9 (l.map (aB .own)),.agg (aB .own k)] = some (.row .own 9 ((dQ Kp.seq k l).map (aB .own)),[.dead,.dead]):=by
 rw [aq (b:=El) (rs:=[.t 4]) (n:=2) rfl rfl]
 have u1:=Sc l k nB
 have hi:=aa4 Kp.seq k l []
 simp only [List.nil_append] at hi
 rw [← hi]
 have hlen:=NF Kp.seq k l ([],false)
 generalize l.foldl (iK Kp.seq k) ([],false) = g at u1 hlen ⊢
 obtain ⟨out,pt⟩:=g
 simp only [List.length_nil] at hlen
 have hz1 : (out.length + 1) * 136≤140737488355328:=by omega
 unfold CB
 unfold og at u1
 cases pt
 all_goals simp at u1
 all_goals
 simp -implicitDefEqProofs [El,u1,hz1,cQ]
 all_goals (repeat' split) <;> first | rfl | omega | (simp_all; done) | (simp_all; omega) | skip
theorem KE {α : Type} (p : α→Bool) : ∀ (l : List α) (i : Nat) (g : Bool),foldI (fun _ (g : Bool) x=>g && p x) i l g = (g && aI p l)
 | [],i,g=>by simp [foldI,aI]
 | x :: l,i,g=>by rw [foldI,KE p l]; simp [aI,Bool.and_assoc]
theorem SX {α : Type} (p : α→Bool) (l : List α) : aI (fun x=>!p x) l = !(l.any p):=by
 unfold aI
 rw [List.all_eq_not_any_not]
 simp
def gQ (all : List Kp) (i : Nat) : List (List X):=all.mapIdx fun j k=>if j < i∧mC all j k = false then cK k else aB .own k
theorem EJ (all : List Kp) (i : Nat) : (gQ all i).length = all.length:=by simp [gQ]
theorem PL (all : List Kp) (i j : Nat) (h : i≤j) (hj : j < all.length) : (gQ all i)[j]? = some (aB .own all[j]):=by
 unfold gQ
 rw [List.getElem?_mapIdx,List.getElem?_eq_getElem hj]
 simp only [Option.map_some]
 rw [if_neg (by omega)]
theorem aew (all : List Kp) : gQ all 0 = all.map (aB .own):=by
 apply List.ext_getElem?
 intro j
 unfold gQ
 rw [List.getElem?_mapIdx,List.getElem?_map]
 cases all[j]? with
 | none=>rfl
 | some k=>simp only [Option.map_some]; rw [if_neg (by omega)]
theorem EI (all : List Kp) (i j : Nat) : (gQ all i)[j]? = all[j]?.map fun k=>if j < i∧mC all j k = false then cK k else aB .own k:=by unfold gQ; rw [List.getElem?_mapIdx]
theorem aev (all : List Kp) (i : Nat) (hi : i < all.length) : gQ all (i + 1) = if mC all i all[i] = true then gQ all i else (gQ all i).set i (cK all[i]):=by
 apply List.ext_getElem?
 intro j
 rw [EI]
 by_cases e : j = i
 ·subst e
  cases hb : mC all j all[j]
  ·simp only [Bool.false_eq_true,if_false]
   rw [List.getElem?_set_self (by rw [EJ]; exact hi),List.getElem?_eq_getElem hi]
   simp only [Option.map_some,hb,and_true]
   rw [if_pos (by omega)]
  ·simp only [if_true]
   rw [EI,List.getElem?_eq_getElem hi]
   simp only [Option.map_some,hb,Bool.true_eq_false,and_false,if_false]
 ·have e2 : j < i + 1↔j < i:=⟨fun h=>by omega,fun h=>by omega⟩
  simp only [e2]
  split
  ·rw [EI]
  ·rw [List.getElem?_set_ne (by omega),EI]
theorem SC (d : aW) (bs : List Bn) (sq : Int) (av : List Kp) (nx : Int) (all : List Kp) (nB : all.length≤15) (hall : ∀ k∈all,sG k) (i : Nat) (hi : i < all.length) (T : List (List X)) (hT : ∀ j,i≤j→(h : j < all.length)→T[j]? = some (aB .own all[j])) (qR : T.length = all.length) :
  aC (ai (ev LI TT) (aj TT) rY) [(2,.ptr .own (aH .own ⟨⟨[],[]⟩,[],[],0,0⟩)),(5,.row .own 9 T),(12,.ptr .own (aH .own ⟨d,av,bs,nx,sq⟩)),(13,.int .i64 i),(14,.bool true),(15,.int .i64 ((i + 1 : Nat) : Int))] =
  some (.exit 4,[(2,.ptr .own (aH .own ⟨⟨[],[]⟩,[],[],0,0⟩)),(5,.row .own 9 T),(12,.ptr .own (aH .own ⟨d,av,bs,nx,sq⟩)),(13,.int .i64 i),(14,.bool (!mC all i all[i])),(15,.int .i64 all.length),(83,.bool false)]):=by
 have:=gw (xt:=4) (f:=ai (ev LI TT) (aj TT) rY) (all.drop (i + 1)) (fun j (g : Bool)=>[(2,.ptr .own (aH .own ⟨⟨[],[]⟩,[],[],0,0⟩)),(5,.row .own 9 T),(12,.ptr .own (aH .own ⟨d,av,bs,nx,sq⟩)),(13,.int .i64 i),(14,.bool g),(15,.int .i64 ((i + 1 + j : Nat) : Int))]) (fun _ (g : Bool) x=>g && !(decide (x.seq = (all[i]).seq) || iS x.obj (all[i]).obj))
  (fun g=>[(2,.ptr .own (aH .own ⟨⟨[],[]⟩,[],[],0,0⟩)),(5,.row .own 9 T),(12,.ptr .own (aH .own ⟨d,av,bs,nx,sq⟩)),(13,.int .i64 i),(14,.bool g),(15,.int .i64 all.length),(83,.bool false)])
  (fun _ _=>True) true trivial (fun j b g hj hl _=>?_) (fun _ _ _ _ _=>trivial) (fun g _=>?_)
 ·rw [KE,SX] at this
  exact this
 ·rw [List.getElem?_drop] at hj
  obtain ⟨hjl,rfl⟩:=List.getElem?_eq_some_iff.1 hj
  obtain ⟨n,hn⟩ : ∃ n,i + 1 + j = n:=⟨_,rfl⟩
  have hn2 : i + 1 + (j + 1) = n + 1:=by omega
  simp only [hn] at hjl ⊢
  rw [hn2]
  obtain ⟨q1,q2⟩:=List.getElem?_eq_some_iff.1 (hT n (by omega) hjl)
  obtain ⟨q3,q4⟩:=List.getElem?_eq_some_iff.1 (hT i (by omega) hi)
  have hw:=aM n (by omega)
  have dP : (n : Int) < T.length:=by omega
  have u1:=Vb (all[n]).obj (all[i]).obj (by have:=uM (hall _ (List.getElem_mem hjl)).o; omega) (by have:=uM (hall _ (List.getElem_mem hi)).o; omega)
  clear hT hj hl
  generalize iS (all[n]).obj (all[i]).obj = tw at u1 ⊢
  try simp at u1 q2 q4
  by_cases gq : (all[n]).seq = (all[i]).seq
  ·simp -implicitDefEqProofs [rY,zk,dP,hw,q1,q2,q3,q4,gq]
  ·cases tw
   ·simp -implicitDefEqProofs [rY,zk,dP,hw,q1,q2,q3,q4,gq,u1]
   ·simp -implicitDefEqProofs [rY,zk,dP,hw,q1,q2,q3,q4,gq,u1]
 ·have e : i + 1 + (all.drop (i + 1)).length = all.length:=by rw [List.length_drop]; omega
  rw [e]
  simp -implicitDefEqProofs [rY,zk,qR]
end M
set_option maxHeartbeats 4000000
namespace M
open Go
theorem SG (d : aW) (bs : List Bn) (sq : Int) (av : List Kp) (nx : Int) (all : List Kp) (nB : all.length≤15) (hall : ∀ k∈all,sG k) (i : Nat) (hi : i < all.length) (ho : av.length≤1000) :
  ai (ev LI TT) (aj TT) rZ [(2,.ptr .own (aH .own ⟨⟨[],[]⟩,[],[],0,0⟩)),(5,.row .own 9 (gQ all i)),(12,.ptr .own (aH .own ⟨d,av,bs,nx,sq⟩)),(13,.int .i64 i)] =
  some (.normal,[(2,.ptr .own (aH .own ⟨⟨[],[]⟩,[],[],0,0⟩)),(5,.row .own 9 (gQ all (i + 1))),(12,.ptr .own (aH .own ⟨d,(lH all i (av,nx) all[i]).1,bs,(lH all i (av,nx) all[i]).2,sq⟩)),(13,.int .i64 ((i + 1 : Nat) : Int))]):=by
 have hz:=Au ho
 have hw:=aM i (E6 hi (by omega))
 have hk:=hall _ (List.getElem_mem hi)
 have u2:=U8 (all[i]).at_ hk.a
 have u1:=SC d bs sq av nx all nB hall i hi (gQ all i) (fun j h1 h2=>PL all i j h1 h2) (EJ all i)
 have hg:=PL all i i (Nat.le_refl _) hi
 have qR:=EJ all i
 rw [aev all i hi]
 unfold lH
 generalize gQ all i = T at u1 hg qR ⊢
 obtain ⟨q1,q2⟩:=List.getElem?_eq_some_iff.1 hg
 have hm:=pZ T i _ hg
 have o7 : (i : Int) < T.length:=Int.ofNat_lt.2 q1
 have M5 : (i : Int) < all.length:=Int.ofNat_lt.2 hi
 clear hall hk hg
 cases hlb : mC all i all[i]
 ·rw [hlb] at u1
  try simp at u1 u2 q2 hm
  simp -implicitDefEqProofs [rZ,D0,hi,q1,o7,M5,hw,u1,u2,q2,hm,qj,hz,cQ,cK]
 ·rw [hlb] at u1
  try simp at u1 u2 q2 hm
  simp -implicitDefEqProofs [rZ,D0,hi,q1,o7,M5,hw,u1,u2,q2]
theorem SF (d : aW) (bs : List Bn) (sq : Int) (all : List Kp) (nB : all.length≤15) (hall : ∀ k∈all,sG k) :
  aC (ai (ev LI TT) (aj TT) rZ) [(2,.ptr .own (aH .own ⟨⟨[],[]⟩,[],[],0,0⟩)),(5,.row .own 9 (all.map (aB .own))),(12,.ptr .own (aH .own ⟨d,[],bs,5,sq⟩)),(13,.int .i64 0)] =
  some (.exit 2,[(2,.ptr .own (aH .own ⟨⟨[],[]⟩,[],[],0,0⟩)),(5,.row .own 9 (gQ all all.length)),(12,.ptr .own (aH .own ⟨d,(jz all).1,bs,(jz all).2,sq⟩)),(13,.int .i64 all.length),(75,.bool false)]):=by
 have:=gw (xt:=2) (f:=ai (ev LI TT) (aj TT) rZ) all (fun i (g : List Kp×Int)=>[(2,.ptr .own (aH .own ⟨⟨[],[]⟩,[],[],0,0⟩)),(5,.row .own 9 (gQ all i)),(12,.ptr .own (aH .own ⟨d,g.1,bs,g.2,sq⟩)),(13,.int .i64 i)]) (lH all)
  (fun g=>[(2,.ptr .own (aH .own ⟨⟨[],[]⟩,[],[],0,0⟩)),(5,.row .own 9 (gQ all all.length)),(12,.ptr .own (aH .own ⟨d,g.1,bs,g.2,sq⟩)),(13,.int .i64 all.length),(75,.bool false)])
  (fun i g=>g.1.length≤i∧i≤15) ([],5) (by simp) (fun i b g hi hl hg=>?_) (fun i b g hi hg=>?_) (fun g hg=>?_)
 ·rw [NW,aew] at this
  exact this
 ·obtain ⟨_,rfl⟩:=List.getElem?_eq_some_iff.1 hi
  obtain ⟨av,nx⟩:=g
  exact SG d bs sq av nx all nB hall i hl (by have:=hg.1; simp only at this; omega)
 ·have hl:=(List.getElem?_eq_some_iff.1 hi).1
  unfold lH
  split
  ·omega
  ·simp; omega
 ·simp -implicitDefEqProofs [rZ,D0,EJ]
theorem SE (d : aW) (bs : List Bn) (m : Int) (hd : cH d = true) (hwd : bY d≤16777216) (GN : wL aR bs≤1000) (hm : 0≤m∧m < 100000) :
  aC (ai (ev LI TT) (aj TT) n8) [(1,.ptr .own (bH .af d)),(2,.ptr .own (aH .own ⟨⟨[],[]⟩,[],[],0,0⟩)),(3,.ref 22 [(0,0)]),(4,.int .i64 m),(5,.row .own 9 []),(6,.int .i64 5),(20,.au [.ref 22 [(0,0)],.int .i64 m]),(22,.au [.row .own 4 (bs.map aS),.int .i64 m])] =
  some (.exit 0,[(1,.ptr .own (bH .af d)),(2,.ptr .own (aH .own ⟨⟨[],[]⟩,[],[],0,0⟩)),(3,.ref 22 [(0,0)]),(4,.int .i64 (jS bs d m).2),(5,.row .own 9 ((gb Kp.seq (jS bs d m).1).map (aB .own))),(6,.int .i64 20),(20,.au [.ref 22 [(0,0)],.int .i64 m]),(22,.au [.row .own 4 (bs.map aS),.int .i64 m]),(27,.bool false)]):=by
 obtain ⟨k0,k1,k2⟩:=jU hd
 have:=gw (xt:=0) (f:=ai (ev LI TT) (aj TT) n8) (List.range 15) (fun i (g : List Kp×Int)=>[(1,.ptr .own (bH .af d)),(2,.ptr .own (aH .own ⟨⟨[],[]⟩,[],[],0,0⟩)),(3,.ref 22 [(0,0)]),(4,.int .i64 g.2),(5,.row .own 9 ((gb Kp.seq g.1).map (aB .own))),(6,.int .i64 ((5 + i : Nat) : Int)),(20,.au [.ref 22 [(0,0)],.int .i64 m]),(22,.au [.row .own 4 (bs.map aS),.int .i64 m])]) (pY bs d)
  (fun g=>[(1,.ptr .own (bH .af d)),(2,.ptr .own (aH .own ⟨⟨[],[]⟩,[],[],0,0⟩)),(3,.ref 22 [(0,0)]),(4,.int .i64 g.2),(5,.row .own 9 ((gb Kp.seq g.1).map (aB .own))),(6,.int .i64 20),(20,.au [.ref 22 [(0,0)],.int .i64 m]),(22,.au [.row .own 4 (bs.map aS),.int .i64 m]),(27,.bool false)])
  (fun i g=>i≤15∧qv i g) ([],m) ⟨by omega,⟨by simp,by simp,hm,by simp,by simp,by simp⟩⟩ (fun i b g hi hl hg=>?_) (fun i b g hi hg=>?_) (fun g hg=>?_)
 ·refine Eq.trans ?_ this
  simp [gb]
 ·have qU : i < 15:=by simpa using hl
  obtain ⟨at_,gu⟩ : ∃ a,((5 + i : Nat) : Int) = a:=⟨_,rfl⟩
  have dP : at_ < 20:=by omega
  have hw : IntKind.i64.wrap (at_ + 1) = at_ + 1:=bz (by omega) (by omega)
  have BD : ((5 + (i + 1) : Nat) : Int) = at_ + 1:=by omega
  have u1:=K8 d at_ (by omega)
  have hin : cH d = true∧(0 : Int)≤at_∧at_≤19:=⟨hd,by omega,by omega⟩
  rw [if_pos hin] at u1
  have GZ:=Br d at_
  have u2:=Lc (cw d at_) (by omega)
  have hrl:=DH (cw d at_)
  have lf:=DI (cw d at_)
  have u3:=U1 (cg (cw d at_)).2.1 (by omega)
  have how:=OA (cg (cw d at_)).2.1
  have kz:=hg.2.n
  have BO : (gb Kp.seq g.1).length≤15:=by rw [(JF Kp.seq g.1).length_eq]; omega
  unfold pY
  rw [gu,BD]
  clear gu BD
  generalize cg (cw d at_) = rr at u2 u3 hrl lf how ⊢
  obtain ⟨n,bd,ok⟩:=rr
  simp only at u2 u3 hrl lf how ⊢
  generalize fY bd = br at u3 how ⊢
  obtain ⟨⟨op,on,ov,⟨rs,rf,rb⟩,ot⟩,qC⟩:=br
  simp only at how
  have u5:=UZ bs ⟨op,on,ov,⟨rs,rf,rb⟩,ot⟩ (by omega) (by omega)
  have u6:=Va (gb Kp.seq g.1) ⟨⟨op,on,ov,⟨rs,rf,rb⟩,ot⟩,at_,n⟩ BO
  rw [← aee] at u6
  have wT : max g.2 n = if n < g.2 then g.2 else n:=by split <;> omega
  simp only at u5 ⊢
  generalize nA bs ⟨op,on,ov,⟨rs,rf,rb⟩,ot⟩ = hb at u5 ⊢
  obtain ⟨g1,g2⟩:=g
  simp only at u6 wT ⊢
  simp at u1 u2 u3 u5 u6
  cases ok
  ·simp -implicitDefEqProofs [n8,rX,dP,hw,u1,u2,u3]
  cases qC
  ·simp -implicitDefEqProofs [n8,rX,dP,hw,u1,u2,u3]
  by_cases gq : n < 100000
  rotate_left
  ·have nq : 100000≤n:=by omega
   simp -implicitDefEqProofs [n8,rX,dP,hw,u1,u2,u3,gq,nq]
  have nq : ¬ 100000≤n:=by omega
  cases hb
  ·simp -implicitDefEqProofs [n8,rX,dP,hw,u1,u2,u3,u5,u6,gq,nq,wT]
  ·simp -implicitDefEqProofs [n8,rX,dP,hw,u1,u2,u3,u5,gq,nq,wT]
 ·have qU : i < 15:=by have:=(List.getElem?_eq_some_iff.1 hi).1; simpa using this
  exact ⟨by omega,Iz bs d qU b hg.2⟩
 ·simp -implicitDefEqProofs [n8,rX]
theorem Lb (d : aW) (hwd : bY d≤16777216) : ev LI TT 72 [.agg (bH .af d)] = some (.agg (aH .own (uG d)),[.dead]):=by
 rw [aq (b:=zm) (rs:=[.c 2 6 true 42]) (n:=1) rfl rfl]
 have Nw : bY d = wL wS d.cells + wL bR d.pending:=rfl
 have l1:=aY (w:=wS) d.cells
 have l2:=aY (w:=bR) d.pending
 unfold uG
 have u1:=vV  d (by omega)
 try simp at u1
 have u2:=U7  d (by omega) (by omega)
 try simp at u2
 by_cases g : cH d = true
 rotate_left
 ·have u3:=U4
  rw [show cH d = false by simpa using g] at u1 ⊢
  simp at u1 u3
  simp -implicitDefEqProofs [zm,u1,u3]
 have B:=pV d
 have u3:=U9 d g hwd
 have u4:=SE d (cP d).1 (cP d).2 g hwd (Iv d) B.2.2
 have u5:=SF d (cP d).1 ((ij d).2 + 1) (fX d) (Iu d) (fun k hk=>(Dn hk).1)
 have O:=(yC d).m
 have hw : IntKind.i64.wrap ((ij d).2 + 1) = (ij d).2 + 1:=bz (by omega) (by omega)
 rw [show jS (cP d).1 d (cP d).2 = ij d from rfl,show gb Kp.seq (ij d).1 = fX d from rfl] at u4
 have e : dZ d = ⟨d,(jz (fX d)).1,(cP d).1,(jz (fX d)).2,(ij d).2 + 1⟩:=rfl
 rw [g] at u1
 rw [g,if_pos rfl,e]
 clear e B O
 generalize jz (fX d) = lk at u5 ⊢
 generalize fX d = all at u4 u5
 generalize ij d = od at u4 u5 hw ⊢
 generalize cP d = mb at u3 u4 u5 ⊢
 obtain ⟨av,nx⟩:=lk
 obtain ⟨od1,od2⟩:=od
 obtain ⟨bs,ms⟩:=mb
 simp at u1 u2 u3 u4 u5
 simp -implicitDefEqProofs [zm,u1,u2,u3,u4,u5,hw]
 all_goals (repeat' split) <;> first | rfl | omega | (simp_all; done) | (simp_all; omega) | skip
end M
set_option maxHeartbeats 4000000
namespace M
open Go
theorem Ds (d : aW) : bT (dZ d)≤bY d + 25000:=by
 have h1:=Iv d
 have h2 : wL bE (iL (fX d))≤15 * (1300 + 1):=oq (fun k hk=>uM (Dn ((yw _).subset hk)).1.o) (Nat.le_trans (yw _).length_le (Iu d))
 show bY d + wL bE (iL (fX d)) + wL aR (cP d).1≤_
 omega
end M
namespace M
open Go
end M
set_option maxHeartbeats 4000000
namespace M
open Go
end M
set_option maxHeartbeats 4000000
namespace M
open Go
def zV (a b : bP) : Bool:=decide (a.status = b.status) && decide (a.body = b.body) && decide (a.fields = b.fields)
theorem TV (a : bP) (b : bP) (ha : a.fields.length≤1073741824) (hb : b.fields.length≤1073741824) : ev LI TT 289 [.agg (gG .af a),.agg (gG .af b)] = some (.bool (zV a b),[.dead,.dead]):=by
 rw [aq (b:=Cy) (rs:=[.t 4]) (n:=2) rfl rfl]
 unfold zV
 have u1:=Ln  a.fields b.fields (by omega)
 try simp at u1
 by_cases g1 : a.status = b.status
 all_goals by_cases g2 : a.body = b.body
 all_goals
 simp -implicitDefEqProofs [Cy,u1,g1,g2]
 all_goals (repeat' split) <;> first | rfl | omega | (simp_all; done) | (simp_all; omega) | skip
end M
set_option maxHeartbeats 4000000
namespace M
open Go
end M
set_option maxHeartbeats 4000000
namespace M
open Go
def dW (d : aW) (keep : List Bool) : aW:=⟨lD (fE keep false) d.cells d.pending,[]⟩
theorem LN {d : aW} (keep : List Bool) (h : cH d = true) : cH (dW d keep) = true:=by
 obtain ⟨h0,h1,h1'⟩:=jU h
 have:=NV (fE keep false) d.cells d.pending
 unfold cH dW
 simp only [this,h1]
 rfl
theorem Tu (d : aW) (h : cH d = true) : ev LI TT 78 [.agg (bH .af d)] = some (.agg (bH .own (dx d)),[.dead]):=by
 rw [aq (b:=B0) (rs:=[.c 2 2 true 38]) (n:=1) rfl rfl]
 obtain ⟨h0,h1,h1'⟩:=jU h
 have hw : d.cells.length≤1073741824:=by omega
 have u1:=Fu  d (by omega)
 try simp at u1
 have u2:=TM  d (by omega) (by omega)
 try simp at u2
 have u3:=Ts  d h
 try simp at u3
 rw [h] at u1
 simp -implicitDefEqProofs [B0,u1,u2,u3]
 all_goals (repeat' split) <;> first | rfl | omega | (simp_all; done) | (simp_all; omega) | skip
theorem Kv (d : aW) (keep : List Bool) (hb : d.pending.length≤9223372036854775807) (ho : AH d.pending) (hk : keep.length≤9223372036854775807) (cs : List ag) (hinv : cs.length = 20) : aC (ai (ev LI TT) (aj TT) tH) [(1,.row .af 1 (keep.map eB)),(2,.ptr .own (bH .af d)),(4,.ptr .own [.row .own 1 [],.row .own 2 []]),(5,.ptr .own [.row .own 1 ((cs).map eS),.row .own 2 []]),(16,.aA 2 [] 0 1),(17,.row .af 2 (d.pending.map eW)),(18,.int .i64 d.pending.length),(19,.int .i64 0)] = some (.exit 0,[(1,.row .af 1 (keep.map eB)),(2,.ptr .own (bH .af d)),(4,.ptr .own [.row .own 1 [],.row .own 2 []]),(5,.ptr .own [.row .own 1 (((foldI (fV (fE keep false)) 0 (d.pending) cs)).map eS),.row .own 2 []]),(16,.aA 2 [] 0 1),(17,.row .af 2 (d.pending.map eW)),(18,.int .i64 d.pending.length),(19,.int .i64 (d.pending).length),(20,.bool false)]):=by
 refine gw (f:=ai (ev LI TT) (aj TT) tH) (d.pending) (fun i (cs : List ag)=>[(1,.row .af 1 (keep.map eB)),(2,.ptr .own (bH .af d)),(4,.ptr .own [.row .own 1 [],.row .own 2 []]),(5,.ptr .own [.row .own 1 ((cs).map eS),.row .own 2 []]),(16,.aA 2 [] 0 1),(17,.row .af 2 (d.pending.map eW)),(18,.int .i64 d.pending.length),(19,.int .i64 i)]) (fV (fE keep false)) (fun cs=>[(1,.row .af 1 (keep.map eB)),(2,.ptr .own (bH .af d)),(4,.ptr .own [.row .own 1 [],.row .own 2 []]),(5,.ptr .own [.row .own 1 ((cs).map eS),.row .own 2 []]),(16,.aA 2 [] 0 1),(17,.row .af 2 (d.pending.map eW)),(18,.int .i64 d.pending.length),(19,.int .i64 (d.pending).length),(20,.bool false)]) (fun i (cs : List ag)=>cs.length = 20) cs hinv (fun i b cs hi hl hinv=>?_) (fun i b cs hi hinv=>?_) (fun cs hinv=>?_)
 ·have hw:=aM i (by first | omega | (simp at hl; omega))
  obtain ⟨_,rfl⟩:=List.getElem?_eq_some_iff.1 hi
  have h1:=ho _ (List.getElem_mem hl)
  have h2 : (d.pending[i]).at_.toNat < cs.length:=by omega
  by_cases h4 : i < keep.length
  rotate_left
  ·simp -implicitDefEqProofs [tH,BT,hl,hw,h1,h2,fV,fE,h4]
  cases h5 : keep[i]
  all_goals
  simp -implicitDefEqProofs [tH,BT,hl,hw,h1,h2,fV,fE,h4,h5]
 ·rw [Dd]; exact hinv
 ·simp -implicitDefEqProofs [tH,BT]
theorem Tq (d : aW) (keep : List Bool) (h : cH d = true) (hk : keep.length≤9223372036854775807) : ev LI TT 79 [.agg (bH .af d),.row .af 1 (keep.map eB)] = some (.agg (bH .own (dW d keep)),[.dead,.dead]):=by
 rw [aq (b:=BU) (rs:=[.c 4 2 true 38]) (n:=2) rfl rfl]
 obtain ⟨h0,h1,h1'⟩:=jU h
 have u2:=Kv d keep (by omega) h0 hk d.cells h1
 try simp at u2
 have u1:=Fu  d (by omega)
 try simp at u1
 have u2:=NQ d.cells (by omega)
 try simp at u2
 rw [h] at u1
 have v2:=Kv d keep (by omega) h0 hk d.cells h1
 try simp at v2
 simp -implicitDefEqProofs [BU,u1,u2,v2,dW,lD]
 all_goals (repeat' split) <;> first | rfl | omega | (simp_all; done) | (simp_all; omega) | skip
theorem UT (d : aW) (keep : List Bool) (h : cH d = true) (hk : keep.length≤9223372036854775807) : ev LI TT 76 [.agg (bH .af d),.row .af 1 (keep.map eB)] = some (.agg (bH .own (dW d keep)),[.dead,.dead]):=by
 rw [aq (b:=DQ) (rs:=[.c 4 2 true 38]) (n:=2) rfl rfl]
 obtain ⟨h0,h1,h1'⟩:=jU h
 unfold dW
 have u1:=vV  d (by omega)
 try simp at u1
 have u2:=Lh  d keep false h hk
 try simp at u2
 rw [h] at u1
 simp -implicitDefEqProofs [DQ,u1,u2]
 all_goals (repeat' split) <;> first | rfl | omega | (simp_all; done) | (simp_all; omega) | skip
theorem Sf (a : List Bn) (b : List Bn) (hb : a.length≤9223372036854775807) (fQ : b.length≤9223372036854775807) : aC (ai (ev LI TT) (aj TT) vg) [(0,.row .af 4 (a.map aS)),(1,.row .af 4 (b.map aS)),(5,.int .i64 0)] = (cC (fun x=>decide (x.1≠x.2)) 0 (a.zip b)).elim (some (.exit 0,[(0,.row .af 4 (a.map aS)),(1,.row .af 4 (b.map aS)),(5,.int .i64 (a.zip b).length),(15,.bool false)])) fun x=>some (.ret,(fun (i : Nat) b=>[(4,.bool false)]) x.1 x.2):=by
 refine pT (f:=ai (ev LI TT) (aj TT) vg) (a.zip b) (fun i=>[(0,.row .af 4 (a.map aS)),(1,.row .af 4 (b.map aS)),(5,.int .i64 i)]) (fun x=>decide (x.1≠x.2)) (fun (i : Nat) b=>[(4,.bool false)]) _ (fun i b hi hl=>?_) ?_
 ·have hw:=aM i (by first | omega | (simp at hl; omega))
  obtain ⟨_,rfl⟩:=List.getElem?_eq_some_iff.1 hi
  have ha : i < a.length:=by simp at hl; omega
  have hb' : i < b.length:=by simp at hl; omega
  have hbe : ∀ x y : Bn,(x = y)↔x.kind = y.kind∧x.a = y.a∧x.b = y.b∧x.t = y.t:=fun x y=>by cases x; cases y; simp
  simp -implicitDefEqProofs [vg,En,hl,hw,ha,hb',hbe]
  all_goals (repeat' split) <;> first | rfl | omega | (simp_all; done) | (simp_all; omega) | skip
 ·have hz : (a.zip b).length = min a.length b.length:=by simp
  rw [hz]
  by_cases hh : a.length≤b.length
  ·rw [Nat.min_eq_left hh]; simp -implicitDefEqProofs [vg,En]
  have h1 : b.length≤a.length:=by omega
  have h2 : (b.length : Int) < a.length:=by omega
  have h3 : b.length < a.length:=by omega
  rw [Nat.min_eq_right h1]
  simp -implicitDefEqProofs [vg,En,h2,h3]
theorem Li (a : List Bn) (b : List Bn) (hb : a.length≤9223372036854775807) (fQ : b.length≤9223372036854775807) : ev LI TT 75 [.row .af 4 (a.map aS),.row .af 4 (b.map aS)] = some (.bool (decide (a = b)),[.dead,.dead]):=by
 rw [aq (b:=vh) (rs:=[.t 4]) (n:=2) rfl rfl]
 have h:=Sf a b hb fQ
 cases g : cC (fun x : Bn×Bn=>decide (x.1≠x.2)) 0 (a.zip b) with
 | some x =>
  obtain ⟨i,x⟩:=x
  obtain ⟨_,h1,h2⟩:=oV g
  have h3 : ¬ a = b:=QF (List.mem_of_getElem? h1) (by simpa using h2)
  rw [g] at h; simp only [Option.elim] at h; simp -implicitDefEqProofs [vh,h,h3]
 | none =>
 have h1:=Bj.1 g
 rw [g] at h
 simp only [Option.elim] at h
 try simp at h
 by_cases hl : a.length = b.length
 ·have h2:=Kl h1 hl
  subst h2
  try simp at h
  simp -implicitDefEqProofs [vh,h]
 have h3 : ¬ a = b:=fun e=>hl (by rw [e])
 have h4 : ¬ (a.length : Int) = b.length:=by omega
 simp -implicitDefEqProofs [vh,h,h3,h4]
 all_goals (repeat' split) <;> first | rfl | omega | (simp_all; done) | (simp_all; omega) | skip
def zU (a b : Ob) : Bool:=iS a b && decide (a.t = b.t) && zV a.resp b.resp
theorem TU (a : Ob) (b : Ob) (ha : aV a≤1073741824) (hb : aV b≤1073741824) : ev LI TT 190 [.agg (bn .af a),.agg (bn .af b)] = some (.bool (zU a b),[.dead,.dead]):=by
 rw [aq (b:=xL) (rs:=[.t 4]) (n:=2) rfl rfl]
 have hw : aV a = a.path.length + wL wS a.names + wL wS a.values + bp a.resp:=rfl
 have eE : aV b = b.path.length + wL wS b.names + wL wS b.values + bp b.resp:=rfl
 have q7 : bp a.resp = wL aJ a.resp.fields + a.resp.body.length:=rfl
 have wZ : bp b.resp = wL aJ b.resp.fields + b.resp.body.length:=rfl
 have l1:=aY (w:=aJ) a.resp.fields
 have l2:=aY (w:=aJ) b.resp.fields
 unfold zU
 have u1:=K2  a b ha hb
 try simp at u1
 have u2:=TV  a.resp b.resp (by omega) (by omega)
 try simp at u2
 generalize iS a b = b1 at u1
 generalize zV a.resp b.resp = b2 at u2
 cases b1
 ·simp -implicitDefEqProofs [xL,u1]
 by_cases g : a.t = b.t
 all_goals
 simp -implicitDefEqProofs [xL,u1,u2,g]
 all_goals (repeat' split) <;> first | rfl | omega | (simp_all; done) | (simp_all; omega) | skip
def lB (k x : Kp) : Bool:=decide (x.at_ = k.at_) && decide (x.seq = k.seq) && zU x.obj k.obj
theorem TF (x k : Kp) (hx : aV x.obj≤1073741824) (hk : aV k.obj≤1073741824) : ev LI TT 189 [.agg (aB .af x),.ptr .af (aB .af k)] = some (.bool (lB k x),[.dead,.dead]):=by
 rw [aq (b:=B3) (rs:=[.t 3]) (n:=2) rfl rfl]
 unfold lB
 have u1:=TU  x.obj k.obj hx hk
 try simp at u1
 by_cases g1 : x.at_ = k.at_
 all_goals by_cases g2 : x.seq = k.seq
 all_goals
 simp -implicitDefEqProofs [B3,u1,g1,g2]
 all_goals (repeat' split) <;> first | rfl | omega | (simp_all; done) | (simp_all; omega) | skip
def jQ (l : List Kp) (k : Kp) : Bool:=!aI (fun x=>!lB k x) l
theorem QZ (m s : Sh) (hm : bT m≤1073741824) (hs : bT s≤1073741824) : aC (ai (ev LI TT) (aj TT) xB) [(0,.ptr .af (aH .af m)),(1,.ptr .af (aH .af s)),(8,.ptr .af (aH .af s)),(9,.ptr .af (aH .af s)),(10,.ptr .af ((aH .af s).drop 2)),(11,.row .af 9 (s.av.map (aB .af))),(12,.int .i64 s.av.length),(13,.int .i64 0)] = if aI (jQ m.av) (s.av) = true then some (.exit 0,[(0,.ptr .af (aH .af m)),(1,.ptr .af (aH .af s)),(8,.ptr .af (aH .af s)),(9,.ptr .af (aH .af s)),(10,.ptr .af ((aH .af s).drop 2)),(11,.row .af 9 (s.av.map (aB .af))),(12,.int .i64 s.av.length),(13,.int .i64 (s.av).length),(14,.bool false)]) else some (.ret,[(4,.bool false)]):=by
 refine cG (f:=ai (ev LI TT) (aj TT) xB) (s.av) (fun i=>[(0,.ptr .af (aH .af m)),(1,.ptr .af (aH .af s)),(8,.ptr .af (aH .af s)),(9,.ptr .af (aH .af s)),(10,.ptr .af ((aH .af s).drop 2)),(11,.row .af 9 (s.av.map (aB .af))),(12,.int .i64 s.av.length),(13,.int .i64 i)]) (jQ m.av) _ _ (fun i b hi hl=>?_) ?_
 ·have hw:=aM i (by have dK : bT s = bY s.aL + wL bE s.av + wL aR s.aQ:=rfl; have:=aY (w:=bE) s.av; omega)
  obtain ⟨_,rfl⟩:=List.getElem?_eq_some_iff.1 hi
  have dK : bT s = bY s.aL + wL bE s.av + wL aR s.aQ:=rfl
  have hwm : bT m = bY m.aL + wL bE m.av + wL aR m.aQ:=rfl
  have hlm:=aY (w:=bE) m.av
  have hk:=vD (List.getElem_mem hl)
  have u1:=FW m.av s.av[i] 189 (lB s.av[i]) rfl (fun x hx=>TF x s.av[i] (by have:=vD hx; omega) (by omega)) (by omega)
  unfold jQ
  generalize aI (fun x=>!lB s.av[i] x) m.av = q at u1
  try simp at u1
  cases q
  all_goals
  simp -implicitDefEqProofs [xB,Hw,hl,hw,u1,iQ,fH,eM]
  all_goals (repeat' split) <;> first | rfl | omega | (simp_all; done) | (simp_all; omega) | skip
 ·simp -implicitDefEqProofs [xB,Hw]
theorem TE (m s : Sh) (hm : bT m≤1073741824) (hs : bT s≤1073741824) : ev LI TT 80 [.ptr .af (aH .af m),.ptr .af (aH .af s)] = some (.bool (aI (jQ m.av) s.av),[.dead,.dead]):=by
 rw [aq (b:=B4) (rs:=[.t 4]) (n:=2) rfl rfl]
 have u1:=QZ  m s hm hs
 try simp at u1
 cases g : aI (jQ m.av) s.av <;> rw [g] at u1 <;> simp at u1
 all_goals
 simp -implicitDefEqProofs [B4,u1]
 all_goals (repeat' split) <;> first | rfl | omega | (simp_all; done) | (simp_all; omega) | skip
theorem acA {a b : Ob} (ha : cy a = true) (hb : cy b = true) : dS a = dS b↔a = b:=by
 constructor
 ·intro h
  unfold dS at h
  rw [if_pos ha,if_pos hb] at h
  exact Tg (cand:=rP) (fun r h=>Ov h) ha hb h
 ·rintro rfl; rfl
theorem ad4 (a b : Ob) : zU a b = decide (a = b):=by
 unfold zU iS zV
 rw [Bool.eq_iff_iff]
 simp only [Bool.and_eq_true,decide_eq_true_eq]
 obtain ⟨p,n,v,⟨s,f,bd⟩,t⟩:=a
 obtain ⟨p',n',v',⟨s',f',bd'⟩,t'⟩:=b
 simp only [Ob.mk.injEq,bP.mk.injEq]
 constructor
 ·rintro ⟨⟨⟨⟨h1,h2⟩,h3⟩,h4⟩,⟨h5,h6⟩,h7⟩; exact ⟨h1,h2,h3,⟨h5,h7,h6⟩,h4⟩
 ·rintro ⟨h1,h2,h3,⟨h5,h7,h6⟩,h4⟩; exact ⟨⟨⟨⟨h1,h2⟩,h3⟩,h4⟩,⟨h5,h6⟩,h7⟩
theorem abz {k x : Kp} (hk : cy k.obj = true) (hx : cy x.obj = true) : lB k x = (decide (x.at_ = k.at_) && decide (x.seq = k.seq) && decide (dS x.obj = dS k.obj)):=by
 unfold lB
 rw [ad4]
 congr 1
 exact decide_eq_decide.2 (acA hx hk).symm
theorem Sg (s : Sh) (k : Kp) (hs : bT s≤1073741824) (hk : aV k.obj≤1073741824) (hok : cy k.obj = true) (hos : ∀ x∈s.av,cy x.obj = true) : aC (ai (ev LI TT) (aj TT) zL) [(2,.ptr .own (aH .af s)),(3,.ptr .own (aB .af k)),(5,.int .i64 0)] = (cC (lB k) 0 (s.av)).elim (some (.exit 0,[(2,.ptr .own (aH .af s)),(3,.ptr .own (aB .af k)),(5,.int .i64 (s.av).length),(11,.bool false)])) fun x=>some (.ret,(fun (i : Nat) b=>[(4,.bool true)]) x.1 x.2):=by
 refine pT (f:=ai (ev LI TT) (aj TT) zL) (s.av) (fun i=>[(2,.ptr .own (aH .af s)),(3,.ptr .own (aB .af k)),(5,.int .i64 i)]) (lB k) (fun (i : Nat) b=>[(4,.bool true)]) _ (fun i b hi hl=>?_) ?_
 ·have hw:=aM i (by have dK : bT s = bY s.aL + wL bE s.av + wL aR s.aQ:=rfl; have:=aY (w:=bE) s.av; omega)
  obtain ⟨_,rfl⟩:=List.getElem?_eq_some_iff.1 hi
  have dK : bT s = bY s.aL + wL bE s.av + wL aR s.aQ:=rfl
  have hx:=vD (List.getElem_mem hl)
  have u1:=FN (s.av[i]).obj (by omega)
  have u2:=FN k.obj (by omega)
  rw [abz hok (hos _ (List.getElem_mem hl))]
  generalize dS (s.av[i]).obj = t1 at u1
  generalize dS k.obj = t2 at u2
  try simp at u1 u2
  by_cases g1 : (s.av[i]).at_ = k.at_
  all_goals by_cases g2 : (s.av[i]).seq = k.seq
  all_goals by_cases g3 : t1 = t2
  all_goals
  simp -implicitDefEqProofs [zL,Jy,hl,hw,u1,u2,g1,g2,g3]
  all_goals (repeat' split) <;> first | rfl | omega | (simp_all; done) | (simp_all; omega) | skip
 ·simp -implicitDefEqProofs [zL,Jy]
theorem Vd (s : Sh) (k : Kp) (hs : bT s≤1073741824) (hk : aV k.obj≤1073741824) (hok : cy k.obj = true) (hos : ∀ x∈s.av,cy x.obj = true) : ev LI TT 74 [.agg (aH .af s),.agg (aB .af k)] = some (.bool (jQ s.av k),[.dead,.dead]):=by
 rw [aq (b:=zM) (rs:=[.t 4]) (n:=2) rfl rfl]
 have u1:=Sg  s k hs hk hok hos
 try simp at u1
 unfold jQ
 rw [← Gs (lB k) s.av 0]
 cases g : cC (lB k) 0 s.av with
 | none=>rw [g] at u1; simp at u1; simp -implicitDefEqProofs [zM,u1]
 | some x =>
 rw [g] at u1
 simp at u1
 simp -implicitDefEqProofs [zM,u1]
 all_goals (repeat' split) <;> first | rfl | omega | (simp_all; done) | (simp_all; omega) | skip
noncomputable def CE (c : Ca) : Bool:=kV c && aI (jQ (dZ (dx c.aE.aL)).av) c.aE.av && decide ((dZ (dx c.aE.aL)).aQ = c.aE.aQ) && decide ((dZ (dW c.aE.aL [])).aQ = c.aE.aQ)
theorem Tf (x y : Bn) : (x = y)↔x.kind = y.kind∧x.a = y.a∧x.b = y.b∧x.t = y.t:=by cases x; cases y; simp
theorem Ss (ps : List (Bn×Bn)) (hb : ps.length≤9223372036854775807) : aC (ai (ev LI TT) (aj TT) Al) [(0,.row .af 4 (ps.map fun x=>aS x.1)),(1,.row .af 4 (ps.map fun x=>aS x.2)),(12,.int .i64 ps.length),(13,.int .i64 0)] = if aI b8 (ps) = true then some (.exit 0,[(0,.row .af 4 (ps.map fun x=>aS x.1)),(1,.row .af 4 (ps.map fun x=>aS x.2)),(12,.int .i64 ps.length),(13,.int .i64 ps.length),(14,.bool false)]) else some (.ret,[(4,.bool false)]):=by
 refine cG (f:=ai (ev LI TT) (aj TT) Al) (ps) (fun i=>[(0,.row .af 4 (ps.map fun x=>aS x.1)),(1,.row .af 4 (ps.map fun x=>aS x.2)),(12,.int .i64 ps.length),(13,.int .i64 i)]) b8 _ _ (fun i b hi hl=>?_) ?_
 ·have hw:=aM i (by first | omega | (simp at hl; omega))
  obtain ⟨_,rfl⟩:=List.getElem?_eq_some_iff.1 hi
  simp -implicitDefEqProofs [Al,J4,hl,hw,b8,Tf]
  first | done | (split <;> simp_all; done) | (split <;> simp_all <;> (intro h1 h2 h3; simp_all))
 ·simp -implicitDefEqProofs [Al,J4]
theorem Lm (a b : List Bn) (hb : a.length≤9223372036854775807) : ev LI TT 81 [.row .af 4 (a.map aS),.row .af 4 (b.map aS)] = some (.bool (decide (a = b)),[.dead,.dead]):=by
 rw [aq (b:=EY) (rs:=[.t 4]) (n:=2) rfl rfl]
 simp -implicitDefEqProofs [EY]
 by_cases h : a.length = b.length
 ·obtain ⟨ps,rfl,rfl⟩:=j9 h
  have h1:=Ss ps (by simpa using hb)
  have h2:=jE ps
  simp at h1
  rw [← h2]
  cases h3 : aI b8 ps <;> rw [h3] at h1 <;> simp [h1,Function.comp_def]
 ·have : ¬ a = b:=fun e=>h (by rw [e])
  simp [this]
  omega
theorem FY {c : Ca} (h : kV c = true) : j0 c.aE = true:=by
 unfold kV at h
 simp only [Bool.and_eq_true] at h
 exact h.1.1.1.1
theorem LO (d : aW) (keep : List Bool) : bY (dW d keep)≤bY d:=by
 have h:=Gy (fE keep false) d.pending 0 d.cells
 show wL wS (lD (fE keep false) d.cells d.pending) + wL bR []≤wL wS d.cells + wL bR d.pending
 have e : wL bR [] = 0:=rfl
 unfold lD
 omega
theorem acC {s : Sh} (h : j0 s = true) : ∀ k∈s.av,cy k.obj = true:=fun k hk=>ad9 h hk
theorem acd {d : aW} : ∀ k∈(dZ d).av,cy k.obj = true:=fun k hk=>(Dn ((yw _).subset hk)).1.o
theorem Tx (c : Ca) (hc : dn c≤16000000) : ev LI TT 21 [.agg (en .af c)] = some (.bool (CE c),[.dead]):=by
 rw [aq (b:=tI) (rs:=[.t 2]) (n:=1) rfl rfl]
 have hwc : dn c = bT c.aE + wL b9 c.bD + wL cL c.seen + wL cJ c.sent:=rfl
 have dK : bT c.aE = bY c.aE.aL + wL bE c.aE.av + wL aR c.aE.aQ:=rfl
 have hlb:=aY (w:=aR) c.aE.aQ
 unfold CE
 have u1:=Tm  c (by omega)
 try simp at u1
 by_cases g : kV c = true
 rotate_left
 ·rw [show kV c = false by simpa using g] at u1 ⊢
  simp -implicitDefEqProofs [tI,u1]
 rw [g] at u1 ⊢
 have hd:=(Pw (FY g)).d
 have hf:=Mw c.aE.aL
 have ia:=LO c.aE.aL []
 have v1:=Tu c.aE.aL hd
 have v2:=K4 (dx c.aE.aL) (Mv hd) (by omega)
 have v3:=Tq c.aE.aL [] hd (by simp)
 have v4:=K4 (dW c.aE.aL []) (LN [] hd) (by omega)
 have m1:=Ds (dx c.aE.aL)
 have m2:=Ds (dW c.aE.aL [])
 have b1:=(pV (dx c.aE.aL)).2.1
 have b2:=(pV (dW c.aE.aL [])).2.1
 have v5:=TE (dZ (dx c.aE.aL)) c.aE (by omega) (by omega)
 have v6:=Lm (dZ (dx c.aE.aL)).aQ c.aE.aQ (by show (cP (dx c.aE.aL)).1.length≤_; omega)
 have v7:=Lm (dZ (dW c.aE.aL [])).aQ c.aE.aQ (by show (cP (dW c.aE.aL [])).1.length≤_; omega)
 clear b1 b2 m1 m2
 generalize aI (jQ (dZ (dx c.aE.aL)).av) c.aE.av = q1 at v5 ⊢
 generalize decide ((dZ (dx c.aE.aL)).aQ = c.aE.aQ) = q2 at v6 ⊢
 generalize decide ((dZ (dW c.aE.aL [])).aQ = c.aE.aQ) = q3 at v7 ⊢
 generalize dZ (dx c.aE.aL) = m1 at v2 v5 v6
 generalize dZ (dW c.aE.aL []) = m2 at v4 v7
 generalize dx c.aE.aL = d1 at v1 v2
 generalize dW c.aE.aL [] = d2 at v3 v4
 simp at v1 v2 v3 v4 v5 v6 v7
 cases q1
 ·simp -implicitDefEqProofs [tI,u1,v1,v2,v3,v4,v5]
 cases q2
 all_goals
 simp -implicitDefEqProofs [tI,u1,v1,v2,v3,v4,v5,v6,v7]
 all_goals (repeat' split) <;> first | rfl | omega | (simp_all; done) | (simp_all; omega) | skip
theorem RQ (c : Ca) (m : Sh) (hc : dn c≤16000000) (hm : bT m≤1073741824) (hok : ∀ k∈c.aE.av,cy k.obj = true) (hos : ∀ x∈m.av,cy x.obj = true) : aC (ai (ev LI TT) (aj TT) zi) [(1,.ptr .own (en .af c)),(3,.ptr .own (aH .own m)),(4,.int .i64 0)] = if aI (jQ m.av) (c.aE.av) = true then some (.exit 0,[(1,.ptr .own (en .af c)),(3,.ptr .own (aH .own m)),(4,.int .i64 (c.aE.av).length),(18,.bool false)]) else some (.ret,[(2,.bool false)]):=by
 refine cG (f:=ai (ev LI TT) (aj TT) zi) (c.aE.av) (fun i=>[(1,.ptr .own (en .af c)),(3,.ptr .own (aH .own m)),(4,.int .i64 i)]) (jQ m.av) _ _ (fun i b hi hl=>?_) ?_
 ·have hw:=aM i (by have:=Lo c; have:=aY (w:=bE) c.aE.av; omega)
  obtain ⟨_,rfl⟩:=List.getElem?_eq_some_iff.1 hi
  have hk:=abB (c:=c) (List.getElem_mem hl)
  have u1:=Vd m c.aE.av[i] hm (by omega) (hok _ (List.getElem_mem hl)) hos
  generalize jQ m.av c.aE.av[i] = q at u1
  try simp at u1
  cases q
  all_goals
  simp -implicitDefEqProofs [zi,Jg,hl,hw,u1]
  all_goals (repeat' split) <;> first | rfl | omega | (simp_all; done) | (simp_all; omega) | skip
 ·simp -implicitDefEqProofs [zi,Jg]
theorem U0 (c : Ca) (hc : dn c≤16000000) : ev LI TT 20 [.agg (en .af c)] = some (.bool (CE c),[.dead]):=by
 rw [aq (b:=uX) (rs:=[.t 2]) (n:=1) rfl rfl]
 have hwc : dn c = bT c.aE + wL b9 c.bD + wL cL c.seen + wL cJ c.sent:=rfl
 have dK : bT c.aE = bY c.aE.aL + wL bE c.aE.av + wL aR c.aE.aQ:=rfl
 have hlb:=aY (w:=aR) c.aE.aQ
 unfold CE
 have u1:=UQ  c (by omega)
 try simp at u1
 by_cases g : kV c = true
 rotate_left
 ·rw [show kV c = false by simpa using g] at u1 ⊢
  simp -implicitDefEqProofs [uX,u1]
 rw [g] at u1 ⊢
 have hd:=(Pw (FY g)).d
 have hf:=Mw c.aE.aL
 have ia:=LO c.aE.aL []
 have v1:=UX c.aE.aL hd
 have v2:=Lb (dx c.aE.aL) (by omega)
 rw [show uG (dx c.aE.aL) = dZ (dx c.aE.aL) by unfold uG; rw [if_pos (Mv hd)]] at v2
 have v3:=UT c.aE.aL [] hd (by simp)
 have v4:=Lb (dW c.aE.aL []) (by omega)
 rw [show uG (dW c.aE.aL []) = dZ (dW c.aE.aL []) by unfold uG; rw [if_pos (LN [] hd)]] at v4
 have m1:=Ds (dx c.aE.aL)
 have m2:=Ds (dW c.aE.aL [])
 have b1:=(pV (dx c.aE.aL)).2.1
 have b2:=(pV (dW c.aE.aL [])).2.1
 have v5:=RQ c (dZ (dx c.aE.aL)) hc (by omega) (acC (FY g)) acd
 have v6:=Li (dZ (dx c.aE.aL)).aQ c.aE.aQ (by show (cP (dx c.aE.aL)).1.length≤_; omega) (by omega)
 have v7:=Li (dZ (dW c.aE.aL [])).aQ c.aE.aQ (by show (cP (dW c.aE.aL [])).1.length≤_; omega) (by omega)
 clear b1 b2 m1 m2
 generalize decide ((dZ (dx c.aE.aL)).aQ = c.aE.aQ) = q2 at v6 ⊢
 generalize decide ((dZ (dW c.aE.aL [])).aQ = c.aE.aQ) = q3 at v7 ⊢
 generalize dZ (dx c.aE.aL) = m1 at v2 v5 v6 ⊢
 generalize dZ (dW c.aE.aL []) = m2 at v4 v7
 generalize dx c.aE.aL = d1 at v1 v2
 generalize dW c.aE.aL [] = d2 at v3 v4
 cases q1 : aI (jQ m1.av) c.aE.av <;> rw [q1] at v5
 all_goals simp at v1 v2 v3 v4 v5 v6 v7
 ·simp -implicitDefEqProofs [uX,u1,v1,v2,v3,v4,v5]
 cases q2
 all_goals
 simp -implicitDefEqProofs [uX,u1,v1,v2,v3,v4,v5,v6,v7]
 all_goals (repeat' split) <;> first | rfl | omega | (simp_all; done) | (simp_all; omega) | skip
end M
set_option maxHeartbeats 4000000
namespace M
open Go
theorem akN (a0 : Ca) (k0 : AK a0) : ∃ ps,ev LI TT 5 [.agg (en .sl a0)] = some (.bool true,ps):=by
 rw [aq (b:=xQ) (rs:=[.t 2]) (n:=1) rfl rfl]
 have s0:=Uh a0 1048576 k0 (by omega) (by omega)
 have w0:=bG 1048576 (dn a0)
 obtain ⟨m0,e0⟩ : ∃ m,m = az 1048576 (dn a0):=⟨_,rfl⟩
 rw [← e0] at s0 w0
 try simp at s0
 by_cases z0 : m0 < 0
 ·simp -implicitDefEqProofs [xQ,s0,z0]
 have t0:=Uy a0 (by omega)
 try simp at t0
 have q0:=TY a0 a0 (by omega)
 try simp at q0
 have hS:=U0 a0 (by omega)
 have hI:=Tx a0 (by omega)
 try simp at hS
 try simp at hI
 simp -implicitDefEqProofs [xQ,s0,z0,t0,q0,hS,hI]
end M
