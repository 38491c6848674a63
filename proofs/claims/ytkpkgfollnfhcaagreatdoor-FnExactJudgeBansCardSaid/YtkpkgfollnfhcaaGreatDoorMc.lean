/- A machine of values for loaded Go functions, sound for the calculus of calls; part 3; no conditions. -/
import Derived.Test.YtkpkgfollnfhcaaGreatDoorMb
import Derived.Sort.Grow
import Derived.Deep.Draws
import Derived.Lib.LaidTab
import Derived.MakeChecks
import Derived.Laws.BitsLemmas
import Derived.ChangeArms
import Derived.ChangeReads
import Derived.ChangeOld
import Derived.ChangeShapes
import Derived.SizedLaws
import Derived.RowKit
import Derived.Below
import Derived.Lib.ItoaNum
import Derived.Lib.TrimByte
import Derived.Lib.AtoiAllCases
import Derived.Lib.SplitLaws
import Derived.Lib.Join
import Derived.Lib.IndexMore
import Derived.HandedShaped
import Derived.Lib.Strings
import Derived.Lib.Slices
import Derived.Lib.Walk
import Derived.Stop.LaidErr
set_option linter.unusedSectionVars false
set_option linter.unusedVariables false
set_option linter.unusedSimpArgs false
namespace M
open Go
section
variable {C C' : bw} {ok : FuncId→Bool}
theorem Qu {C : bw} {d : Option Nat} {s s' : ag} {f : FuncId} {xs : List X} (h : kE d s (C f xs) = some s') : ∃ o,C f xs = some o∧∀ C' : bw,C' f xs = some o→kE d s (C' f xs) = some s':=by
 cases ho : C f xs with
 | none=>rw [ho] at h; cases h
 | some o=>rw [ho] at h; exact ⟨o,rfl,fun C' h'=>by rw [h']; exact h⟩
theorem Qt {C : bw} {d : Option Nat} {as : List (AV×PM)} {back : qk} {s' : ag} {f : FuncId} {xs : List X} (h : tu d as back (C f xs) = some s') : ∃ o,C f xs = some o∧∀ C' : bw,C' f xs = some o→tu d as back (C' f xs) = some s':=by
 cases ho : C f xs with
 | none=>rw [ho] at h; cases h
 | some o=>rw [ho] at h; exact ⟨o,rfl,fun C' h'=>by rw [h']; exact h⟩
theorem CU {f : FuncId} {d : Option Nat} {as : List (AV×PM)} {fv : Option AV} {s s' : ag} (h : kZ C f d as fv s = some s') :
  ∃ xs o,C f xs = some o∧∀ C' : bw,C' f xs = some o→kZ C' f d as fv s = some s':=by
 unfold kZ at h ⊢
 by_cases hb : X.bare.fj (aY as s).1 = true
 ·simp only [if_pos hb] at h ⊢
  cases hm : cB as with
  | none =>
   simp only [hm] at h ⊢
   by_cases hc : oa (aY as s).2 fv f = true
   ·simp only [if_pos hc] at h ⊢
    obtain ⟨o,h1,h2⟩:=Qu h
    exact ⟨_,o,h1,h2⟩
   ·simp only [if_neg hc] at h; cases h
  | some xn =>
   obtain ⟨x,n⟩:=xn
   simp only [hm] at h ⊢
   unfold uG at h ⊢
   split at h
   ·split at h
    ·rename_i y back h1 h2
     simp only [h1,if_pos h2]
     obtain ⟨o,h1,h2⟩:=Qt h
     exact ⟨_,o,h1,h2⟩
    ·cases h
   ·cases h
 ·simp only [if_neg hb] at h; cases h
theorem Dn {o : bp} {s s' : ag} (h : bJ C ok o s = some s') : (∀ C' : bw,bJ C' ok o s = some s')∨∃ f xs r,C f xs = some r∧∀ C' : bw,C' f xs = some r→bJ C' ok o s = some s':=by
 cases o with
 | call d f as =>
  obtain ⟨xs,o,h1,h2⟩:=CU (C:=C) h
  exact .inr ⟨f,xs,o,h1,h2⟩
 | ji d x as =>
  simp only [bJ] at h ⊢
  split at h
  ·rename_i f caps hf
   split at h
   ·rename_i hok
    obtain ⟨xs,o,h1,h2⟩:=CU (C:=C) h
    refine .inr ⟨f,xs,o,h1,fun C' h'=>?_⟩
    simp only [if_pos hok]
    exact h2 C' h'
   ·cases h
  ·cases h
 | kY d f x as =>
  simp only [bJ] at h ⊢
  split at h
  ·rename_i cs h1
   split at h
   ·rename_i h2
    simp only [if_pos h2]
    refine .inr ?_
    cases ho : C f (.agg (aZ cs s).1 :: dI (aZ cs s).2 .dead as (as.map fun _=>.dead)) with
    | none=>rw [ho] at h; cases h
    | some r=>rw [ho] at h; exact ⟨f,_,r,ho,fun C' h'=>by rw [h']; exact h⟩
   ·cases h
  ·cases h
 | _=>exact .inl fun _=>h
theorem Dj {g : G} {s s' : ag} (h : eG C ok g s = some s') : (∀ C' : bw,eG C' ok g s = some s')∨∃ f xs r,C f xs = some r∧∀ C' : bw,C' f xs = some r→eG C' ok g s = some s':=by
 obtain ⟨gg,o⟩:=g
 cases gg with
 | none=>exact Dn h
 | some tb =>
  obtain ⟨t,b⟩:=tb
  simp only [eG] at h ⊢
  split at h
  ·rename_i v hv
   split at h
   ·rename_i h1
    simp only [hv,if_pos h1]
    exact Dn h
   ·rename_i h1
    simp only [hv,if_neg h1]
    exact .inl fun _=>h
  ·exact .inl fun _=>h
  ·cases h
def bw.le (C C' : bw) : Prop:=∀ f xs o,C f xs = some o→C' f xs = some o
theorem Dl (hl : C.le C') {g : G} {s s' : ag} (h : eG C ok g s = some s') : eG C' ok g s = some s':=by
 rcases Dj h with h | ⟨f,xs,r,h1,h2⟩
 ·exact h _
 ·exact h2 _ (hl _ _ _ h1)
theorem zk (hl : C.le C') : ∀ {l : List G} {s s' : ag},fF C ok l s = some s'→fF C' ok l s = some s'
 | [],_,_,h=>h
 | g :: l,s,s',h=>by
  simp only [fF] at h ⊢
  cases h1 : eG C ok g s with
  | none=>rw [h1] at h; cases h
  | some s1=>rw [h1] at h; rw [Dl hl h1]; exact zk hl h
theorem oo (hl : C.le C') : ∀ {t : DT} {s s' : ag},eD C ok t s = some s'→eD C' ok t s = some s'
 | .nil _,_,_,h=>h
 | .step _ g l,s,s',h=>by
  simp only [eD] at h ⊢
  cases h1 : eG C ok g s with
  | none=>rw [h1] at h; cases h
  | some s1=>rw [h1] at h; rw [Dl hl h1]; exact oo hl h
 | .alt a b,s,s',h=>by
  simp only [eD] at h ⊢
  unfold same at h
  split at h
  ·rename_i x y hx hy
   rw [oo hl hx,oo hl hy]
   exact h
  ·cases h
 | .kp _ t,s,s',h=>oo (t:=t) hl h
theorem xN {k k' : ag→bF} {r r' : bF} {o : Ex×ag} (h : di k r = some o) (hr : ∀ x,r = some x→r' = some x) (hk : ∀ s,k s = some o→k' s = some o) : di k' r' = some o:=by
 unfold di at h
 split at h
 ·rw [hr _ rfl]; exact hk _ h
 ·rw [hr _ rfl]; exact h
 ·rw [hr _ rfl]; exact h
 ·cases h
theorem oM {f f' : ag→bF} (hf : ∀ s o,f s = some o→f' s = some o) : ∀ {n m : Nat} {s : ag} {o : Ex×ag},n≤m→iter f n s = some o→iter f' m s = some o
 | 0,_,_,_,_,h=>by cases h
 | n + 1,0,_,_,hn,_=>by omega
 | n + 1,m + 1,s,o,hn,h=>xN h (hf s) fun s' h'=>oM hf (by omega) h'
end
noncomputable def aH (f : ag→bF) (s : ag) : bF:=by
 classical exact if h : ∃ o : Ex×ag,∃ n,iter f n s = some o then some (Classical.choose h) else none
theorem sN {f : ag→bF} {s : ag} {o : Ex×ag} {n : Nat} (h : iter f n s = some o) : aH f s = some o:=by
 have hh : ∃ o : Ex×ag,∃ n,iter f n s = some o:=⟨o,n,h⟩
 unfold aH
 rw [dif_pos hh]
 obtain ⟨m,hm⟩:=Classical.choose_spec hh
 have h1:=oM (fun _ _ h=>h) (Nat.le_max_left m n) hm
 have h2:=oM (fun _ _ h=>h) (Nat.le_max_right m n) h
 rw [h1] at h2
 exact h2
theorem Bb {f : ag→bF} {s : ag} {o : Ex×ag} (h : aH f s = some o) : ∃ n,iter f n s = some o:=by
 unfold aH at h
 split at h
 ·rename_i hh
  cases h
  exact Classical.choose_spec hh
 ·cases h
theorem Bo {α : Type} {a b : Option α} (h1 : ∀ x,a = some x→b = some x) (h2 : ∀ x,b = some x→a = some x) : a = b:=by
 cases a with
 | none=>cases b with
  | none=>rfl
  | some y=>exact h2 y rfl
 | some x=>exact (h1 x rfl).symm
theorem iS (f : ag→bF) (s : ag) : aH f s = di (aH f) (f s):=by
 refine Bo (fun o h=>?_) fun o h=>?_
 ·obtain ⟨n,hn⟩:=Bb h
  cases n with
  | zero=>cases hn
  | succ n=>exact xN hn (fun _ h=>h) fun s' h'=>sN h'
 ·unfold di at h
  split at h
  ·rename_i s' hs
   obtain ⟨n,hn⟩:=Bb h
   refine sN (n:=n + 1) ?_
   simp only [iter,hs,di]; exact hn
  ·rename_i hs; refine sN (n:=1) ?_; simp only [iter,hs,di]; exact h
  ·rename_i hs; refine sN (n:=1) ?_; simp only [iter,hs,di]; exact h
  ·cases h
noncomputable def ai (C : bw) (ok : FuncId→Bool) : A→ag→bF
 | .skip,s=>some (.normal,s)
 | .ret,s=>some (.ret,s)
 | .exit id,s=>some (.exit id,s)
 | .ops l,s=>eH (fF C ok l s)
 | .draw t,s=>eH (eD C ok t s)
 | .seq a b,s=>di (ai C ok b) (ai C ok a s)
 | .cond c a b,s=>match aj s c with
  | .bool t=>if t = true then ai C ok a s else ai C ok b s
  | _=>none
 | .block id b,s=>gw id (ai C ok b s)
 | .loop b,s=>aH (ai C ok b) s
 | .pk ks b,s=>gJ ks (ai C ok b s)
theorem w4 {a b : Option ag} (h : ∀ s,a = some s→b = some s) {o : Ex×ag} (ho : eH a = some o) : eH b = some o:=by
 unfold eH at ho
 split at ho
 ·rw [h _ rfl]; exact ho
 ·cases ho
theorem CA {id : Nat} {a b : bF} (h : ∀ s,a = some s→b = some s) {o : Ex×ag} (ho : gw id a = some o) : gw id b = some o:=by
 cases a with
 | none=>cases ho
 | some x=>rw [h _ rfl]; exact ho
theorem Fk {ks : List Nat} {a b : bF} (h : ∀ s,a = some s→b = some s) {o : Ex×ag} (ho : gJ ks a = some o) : gJ ks b = some o:=by
 cases a with
 | none=>cases ho
 | some x=>rw [h _ rfl]; exact ho
theorem Ky {C C' : bw} {ok : FuncId→Bool} (hl : C.le C') {N : Nat} : ∀ {t : A} {s : ag} {o : Ex×ag},eA C ok N t s = some o→ai C' ok t s = some o:=by
 intro t
 induction t with
 | skip=>intro s o h; exact h
 | ret=>intro s o h; exact h
 | exit id=>intro s o h; exact h
 | ops l=>intro s o h; exact w4 (fun s' h'=>zk hl h') h
 | draw l=>intro s o h; exact w4 (fun s' h'=>oo hl h') h
 | seq a b eE fM=>intro s o h; exact xN h (fun x hx=>eE hx) fun s' h'=>fM h'
 | cond c a b eE fM =>
  intro s o h
  simp only [eA] at h
  simp only [ai]
  split at h
  ·rename_i t ht
   try rw [ht]
   cases t with
   | true=>exact eE h
   | false=>exact fM h
  ·cases h
 | block id b ih=>intro s o h; exact CA (fun x hx=>ih hx) h
 | loop b ih=>intro s o h; exact sN (oM (fun s o h=>ih h) (Nat.le_refl _) h)
 | pk ks b ih=>intro s o h; exact Fk (fun x hx=>ih hx) h
theorem Kz {C C' : bw} {ok : FuncId→Bool} (hl : C.le C') {N N' : Nat} (hN : N≤N') : ∀ {t : A} {s : ag} {o : Ex×ag},eA C ok N t s = some o→eA C' ok N' t s = some o:=by
 intro t
 induction t with
 | skip=>intro s o h; exact h
 | ret=>intro s o h; exact h
 | exit id=>intro s o h; exact h
 | ops l=>intro s o h; exact w4 (fun s' h'=>zk hl h') h
 | draw l=>intro s o h; exact w4 (fun s' h'=>oo hl h') h
 | seq a b eE fM=>intro s o h; exact xN h (fun x hx=>eE hx) fun s' h'=>fM h'
 | cond c a b eE fM =>
  intro s o h
  simp only [eA] at h ⊢
  split at h
  ·rename_i t ht
   cases t with
   | true=>exact eE h
   | false=>exact fM h
  ·cases h
 | block id b ih=>intro s o h; exact CA (fun x hx=>ih hx) h
 | loop b ih=>intro s o h; exact oM (fun s o h=>ih h) hN h
 | pk ks b ih=>intro s o h; exact Fk (fun x hx=>ih hx) h
theorem uT {L : bw} {T : ff} : ∀ {n m : Nat},n≤m→(exec L T n).le (exec L T m)
 | 0,_,_,_,_,_,h=>by cases h
 | n + 1,0,hn,_,_,_,_=>by omega
 | n + 1,m + 1,hn,f,xs,o,h=>by
  have hnm : n≤m:=by omega
  simp only [exec] at h ⊢
  split at h
  ·rename_i F hF
   unfold eF at h ⊢
   split at h
   ·rename_i hl
    rw [if_pos hl]
    cases hr : eA (exec L T n) (ak T) n F.body (iE xs) with
    | none=>rw [hr] at h; cases h
    | some r=>rw [hr] at h; rw [Kz (uT hnm) hnm hr]; exact h
   ·cases h
  ·exact h
noncomputable def ev (L : bw) (T : ff) : bw:=fun f xs=>by
 classical exact if h : ∃ o : Out,∃ n,exec L T n f xs = some o then some (Classical.choose h) else none
theorem zo {L : bw} {T : ff} {f : FuncId} {xs : List X} {o : Out} {n : Nat} (h : exec L T n f xs = some o) : ev L T f xs = some o:=by
 have hh : ∃ o : Out,∃ n,exec L T n f xs = some o:=⟨o,n,h⟩
 unfold ev
 rw [dif_pos hh]
 obtain ⟨m,hm⟩:=Classical.choose_spec hh
 have h1:=uT (Nat.le_max_left m n) f xs _ hm
 have h2:=uT (Nat.le_max_right m n) f xs _ h
 rw [h1] at h2
 exact h2
theorem uR {L : bw} {T : ff} {f : FuncId} {xs : List X} {o : Out} (h : ev L T f xs = some o) : ∃ n,exec L T n f xs = some o:=by
 unfold ev at h
 split at h
 ·rename_i hh
  cases h
  exact Classical.choose_spec hh
 ·cases h
theorem KF (L : bw) (T : ff) (n : Nat) : (exec L T n).le (ev L T):=fun _ _ _ h=>zo h
theorem VB [Bs] {P : Program} {L : bw} {T : ff} (hL : L.Sound P) (hT : T.Ok P) : (ev L T).Sound P:=fun f xs o h=>by
 obtain ⟨n,hn⟩:=uR h
 exact Dx hL hT n f xs o hn
section
variable {L : bw} {T : ff}
theorem Dk {g : G} {s s' : ag} (h : eG (ev L T) (ak T) g s = some s') : ∃ n,∀ m,n≤m→eG (exec L T m) (ak T) g s = some s':=by
 rcases Dj h with h | ⟨f,xs,r,h1,h2⟩
 ·exact ⟨0,fun m _=>h _⟩
 ·obtain ⟨n,hn⟩:=uR h1
  exact ⟨n,fun m hm=>h2 _ (uT hm f xs r hn)⟩
theorem Dq : ∀ {l : List G} {s s' : ag},fF (ev L T) (ak T) l s = some s'→∃ n,∀ m,n≤m→fF (exec L T m) (ak T) l s = some s'
 | [],s,s',h=>⟨0,fun m _=>h⟩
 | g :: l,s,s',h=>by
  simp only [fF] at h ⊢
  cases h1 : eG (ev L T) (ak T) g s with
  | none=>rw [h1] at h; cases h
  | some s1 =>
   rw [h1] at h
   obtain ⟨n1,eT⟩:=Dk h1
   obtain ⟨n2,hn2⟩:=Dq (l:=l) h
   exact ⟨max n1 n2,fun m hm=>by rw [eT m (by omega)]; exact hn2 m (by omega)⟩
theorem qH : ∀ {l : DT} {s s' : ag},eD (ev L T) (ak T) l s = some s'→∃ n,∀ m,n≤m→eD (exec L T m) (ak T) l s = some s'
 | .nil _,s,s',h=>⟨0,fun m _=>h⟩
 | .step _ g l,s,s',h=>by
  simp only [eD] at h ⊢
  cases h1 : eG (ev L T) (ak T) g s with
  | none=>rw [h1] at h; cases h
  | some s1 =>
   rw [h1] at h
   obtain ⟨n1,eT⟩:=Dk h1
   obtain ⟨n2,hn2⟩:=qH (l:=l) h
   exact ⟨max n1 n2,fun m hm=>by rw [eT m (by omega)]; exact hn2 m (by omega)⟩
 | .alt a b,s,s',h=>by
  simp only [eD] at h ⊢
  unfold same at h
  split at h
  ·rename_i x y hx hy
   obtain ⟨n1,eT⟩:=qH hx
   obtain ⟨n2,hn2⟩:=qH hy
   exact ⟨max n1 n2,fun m hm=>by rw [eT m (by omega),hn2 m (by omega)]; exact h⟩
  ·cases h
 | .kp _ t,s,s',h=>qH (l:=t) h
theorem E6 {a : Option ag} {b : Nat→Option ag} (h : ∀ s,a = some s→∃ n,∀ m,n≤m→b m = some s) {o : Ex×ag} (ho : eH a = some o) : ∃ n,∀ m,n≤m→eH (b m) = some o:=by
 cases a with
 | none=>cases ho
 | some s =>
  obtain ⟨n,hn⟩:=h s rfl
  exact ⟨n,fun m hm=>by rw [hn m hm]; exact ho⟩
theorem KD : ∀ {t : A} {s : ag} {o : Ex×ag},ai (ev L T) (ak T) t s = some o→∃ n,∀ m,n≤m→eA (exec L T m) (ak T) m t s = some o:=by
 intro t
 induction t with
 | skip=>intro s o h; exact ⟨0,fun m _=>h⟩
 | ret=>intro s o h; exact ⟨0,fun m _=>h⟩
 | exit id=>intro s o h; exact ⟨0,fun m _=>h⟩
 | ops l=>intro s o h; exact E6 (fun s h=>Dq h) h
 | draw l=>intro s o h; exact E6 (fun s h=>qH h) h
 | seq a b eE fM =>
  intro s o h
  simp only [ai] at h
  simp only [eA]
  cases hr : ai (ev L T) (ak T) a s with
  | none=>rw [hr] at h; cases h
  | some r =>
   rw [hr] at h
   obtain ⟨n1,eT⟩:=eE hr
   obtain ⟨e,s1⟩:=r
   cases e with
   | normal =>
    obtain ⟨n2,hn2⟩:=fM (s:=s1) h
    exact ⟨max n1 n2,fun m hm=>by rw [eT m (by omega)]; exact hn2 m (by omega)⟩
   | exit i=>exact ⟨n1,fun m hm=>by rw [eT m hm]; exact h⟩
   | ret=>exact ⟨n1,fun m hm=>by rw [eT m hm]; exact h⟩
 | cond c a b eE fM =>
  intro s o h
  simp only [ai] at h
  simp only [eA]
  split at h
  ·rename_i t ht
   try rw [ht]
   cases t with
   | true=>exact eE h
   | false=>exact fM h
  ·cases h
 | block id b ih =>
  intro s o h
  simp only [ai] at h
  simp only [eA]
  cases hr : ai (ev L T) (ak T) b s with
  | none=>rw [hr] at h; cases h
  | some r =>
   rw [hr] at h
   obtain ⟨n1,eT⟩:=ih hr
   exact ⟨n1,fun m hm=>by rw [eT m hm]; exact h⟩
 | pk ks b ih =>
  intro s o h
  simp only [ai] at h
  simp only [eA]
  cases hr : ai (ev L T) (ak T) b s with
  | none=>rw [hr] at h; cases h
  | some r =>
   rw [hr] at h
   obtain ⟨n1,eT⟩:=ih hr
   exact ⟨n1,fun m hm=>by rw [eT m hm]; exact h⟩
 | loop b ih =>
  intro s o h
  simp only [ai] at h
  obtain ⟨n,hn⟩:=Bb h
  have go : ∀ (n : Nat) (s : ag),iter (ai (ev L T) (ak T) b) n s = some o→∃ k,∀ m,k≤m→iter (eA (exec L T m) (ak T) m b) n s = some o:=by
   intro n
   induction n with
   | zero=>intro s h; cases h
   | succ n ihn =>
    intro s h
    simp only [iter] at h ⊢
    cases hr : ai (ev L T) (ak T) b s with
    | none=>rw [hr] at h; cases h
    | some r =>
     rw [hr] at h
     obtain ⟨n1,eT⟩:=ih hr
     obtain ⟨e,s1⟩:=r
     cases e with
     | normal =>
      obtain ⟨n2,hn2⟩:=ihn s1 h
      exact ⟨max n1 n2,fun m hm=>by rw [eT m (by omega)]; exact hn2 m (by omega)⟩
     | exit i=>exact ⟨n1,fun m hm=>by rw [eT m hm]; exact h⟩
     | ret=>exact ⟨n1,fun m hm=>by rw [eT m hm]; exact h⟩
  obtain ⟨k,hk⟩:=go n s hn
  refine ⟨max k n,fun m hm=>?_⟩
  simp only [eA]
  exact oM (fun _ _ h=>h) (by omega) (hk m (by omega))
noncomputable def uQ (L : bw) (T : ff) (F : Fn) (xs : List X) : Option Out :=
 if xs.length = F.n then fin F (ai (ev L T) (ak T) F.body (iE xs)) else none
theorem KE {f : FuncId} {F : Fn} (hF : T f = some F) (xs : List X) : ev L T f xs = uQ L T F xs:=by
 refine Bo (fun o h=>?_) fun o h=>?_
 ·obtain ⟨n,hn⟩:=uR h
  cases n with
  | zero=>cases hn
  | succ n =>
   simp only [exec,hF] at hn
   unfold eF at hn
   unfold uQ
   split at hn
   ·rename_i hl
    rw [if_pos hl]
    cases hr : eA (exec L T n) (ak T) n F.body (iE xs) with
    | none=>rw [hr] at hn; cases hn
    | some r=>rw [hr] at hn; rw [Ky (KF L T n) hr]; exact hn
   ·cases hn
 ·unfold uQ at h
  split at h
  ·rename_i hl
   cases hr : ai (ev L T) (ak T) F.body (iE xs) with
   | none=>rw [hr] at h; cases h
   | some r =>
    rw [hr] at h
    obtain ⟨n,hn⟩:=KD hr
    refine zo (n:=n + 1) ?_
    simp only [exec,hF,eF,if_pos hl,hn n (Nat.le_refl n)]
    exact h
  ·cases h
theorem qK {f : FuncId} (hF : T f = none) (xs : List X) : ev L T f xs = L f xs:=by
 refine Bo (fun o h=>?_) fun o h=>?_
 ·obtain ⟨n,hn⟩:=uR h
  cases n with
  | zero=>cases hn
  | succ n=>simpa only [exec,hF] using hn
 ·refine zo (n:=1) ?_
  simpa only [exec,hF] using h
end
end M
namespace M
open Go
section
variable {C : bw} {ok : FuncId→Bool} {T : ff}
@[simp] theorem VA (s : ag) : ai C ok .skip s = some (.normal,s):=rfl
@[simp] theorem Vy (s : ag) : ai C ok .ret s = some (.ret,s):=rfl
@[simp] theorem Vu (i : Nat) (s : ag) : ai C ok (.exit i) s = some (.exit i,s):=rfl
@[simp] theorem Vw (l : List G) (s : ag) : ai C ok (.ops l) s = eH (fF C ok l s):=rfl
@[simp] theorem Vt (t : DT) (s : ag) : ai C ok (.draw t) s = eH (eD C ok t s):=rfl
@[simp] theorem Vz (a b : A) (s : ag) : ai C ok (.seq a b) s = di (ai C ok b) (ai C ok a s):=rfl
@[simp] theorem Vr (i : Nat) (b : A) (s : ag) : ai C ok (.block i b) s = gw i (ai C ok b s):=rfl
@[simp] theorem Vv (b : A) (s : ag) : ai C ok (.loop b) s = aH (ai C ok b) s:=rfl
@[simp] theorem Vx (ks : List Nat) (b : A) (s : ag) : ai C ok (.pk ks b) s = gJ ks (ai C ok b s):=rfl
noncomputable def Db (C : bw) (ok : FuncId→Bool) (a b : A) (s : ag) : X→bF
 | .bool t=>if t = true then ai C ok a s else ai C ok b s
 | _=>none
@[simp] theorem Vs (c : AV) (a b : A) (s : ag) : ai C ok (.cond c a b) s = Db C ok a b s (aj s c):=by
 simp only [ai]; cases aj s c <;> rfl
@[simp] theorem UY (a b : A) (s : ag) (t : Bool) : Db C ok a b s (.bool t) = if t = true then ai C ok a s else ai C ok b s:=rfl
@[simp] theorem Vp (s : ag) : fF C ok [] s = some s:=rfl
@[simp] theorem Vo (g : G) (l : List G) (s : ag) : fF C ok (g :: l) s = (eG C ok g s).bind (fF C ok l):=rfl
@[simp] theorem Vk (ks : List Nat) (s : ag) : eD C ok (.nil ks) s = some (keep ks s):=rfl
@[simp] theorem Vl (i : Nat) (g : G) (t : DT) (s : ag) : eD C ok (.step i g t) s = (eG C ok g s).bind (eD C ok t):=rfl
@[simp] theorem Vi (a b : DT) (s : ag) : eD C ok (.alt a b) s = same (eD C ok a s) (eD C ok b s):=rfl
@[simp] theorem Vj (ks : List Nat) (t : DT) (s : ag) : eD C ok (.kp ks t) s = eD C ok t (keep ks s):=rfl
@[simp] theorem WM (s : ag) : same (some s) (some s) = some s:=by
 have : k9 s s = true:=by
  induction s with
  | nil=>rfl
  | cons a l ih=>obtain ⟨k,x⟩:=a; simp [k9,X.Dw,ih]
 simp [same,this]
@[simp] theorem Uc (c : Prop) [Decidable c] (a b : Option ag) (f : ag→Option ag) : (if c then a else b).bind f = if c then a.bind f else b.bind f:=by split <;> rfl
def u0 (C : bw) (ok : FuncId→Bool) (o : bp) (t : Nat) (b : Bool) (s : ag) : X→Option ag
 | .bool v=>if v = b then bJ C ok o ((t,.bool b) :: s) else some (dw o.dst (.au []) ((t,.bool (!b)) :: s))
 | .au []=>some (dw o.dst (.au []) s)
 | _=>none
@[simp] theorem Vm (o : bp) (s : ag) : eG C ok ⟨none,o⟩ s = bJ C ok o s:=rfl
@[simp] theorem Vn (t : Nat) (b : Bool) (o : bp) (s : ag) : eG C ok ⟨some (t,b),o⟩ s = u0 C ok o t b s (get s t):=by
 simp only [eG]
 split <;> simp_all [u0]
@[simp] theorem VN (o : bp) (t : Nat) (b v : Bool) (s : ag) : u0 C ok o t b s (.bool v) = if v = b then bJ C ok o ((t,.bool b) :: s) else some (dw o.dst (.au []) ((t,.bool (!b)) :: s)):=rfl
@[simp] theorem VO (o : bp) (t : Nat) (b : Bool) (s : ag) : u0 C ok o t b s (.au []) = some (dw o.dst (.au []) s):=rfl
@[simp] theorem Ww (s : ag) : eH (some s) = some (.normal,s):=rfl
@[simp] theorem Wv : eH none = none:=rfl
@[simp] theorem Wu (c : Prop) [Decidable c] (a b : Option ag) : eH (if c then a else b) = if c then eH a else eH b:=by split <;> rfl
@[simp] theorem WS (k : ag→bF) (s : ag) : di k (some (.normal,s)) = k s:=rfl
@[simp] theorem WO (k : ag→bF) (i : Nat) (s : ag) : di k (some (.exit i,s)) = some (.exit i,s):=rfl
@[simp] theorem WT (k : ag→bF) (s : ag) : di k (some (.ret,s)) = some (.ret,s):=rfl
@[simp] theorem WR (k : ag→bF) : di k none = none:=rfl
@[simp] theorem WQ (k : ag→bF) (c : Prop) [Decidable c] (a b : bF) : di k (if c then a else b) = if c then di k a else di k b:=by split <;> rfl
@[simp] theorem Ug (i : Nat) (s : ag) : gw i (some (.normal,s)) = some (.normal,s):=rfl
@[simp] theorem Ud (i j : Nat) (s : ag) : gw i (some (.exit j,s)) = if j = i then some (.normal,s) else some (.exit j,s):=rfl
@[simp] theorem Uh (i : Nat) (s : ag) : gw i (some (.ret,s)) = some (.ret,s):=rfl
@[simp] theorem Uf (i : Nat) : gw i none = none:=rfl
@[simp] theorem Ue (i : Nat) (c : Prop) [Decidable c] (a b : bF) : gw i (if c then a else b) = if c then gw i a else gw i b:=by split <;> rfl
@[simp] theorem WG (ks : List Nat) (s : ag) : gJ ks (some (.normal,s)) = some (.normal,keep ks s):=rfl
@[simp] theorem WC (ks : List Nat) (i : Nat) (s : ag) : gJ ks (some (.exit i,s)) = some (.exit i,s):=rfl
@[simp] theorem WH (ks : List Nat) (s : ag) : gJ ks (some (.ret,s)) = some (.ret,s):=rfl
@[simp] theorem WE (ks : List Nat) : gJ ks none = none:=rfl
@[simp] theorem WD (ks : List Nat) (c : Prop) [Decidable c] (a b : bF) : gJ ks (if c then a else b) = if c then gJ ks a else gJ ks b:=by split <;> rfl
def mE (rs : List RV) (n : Nat) : bF→Option Out
 | some (.exit _,_)=>none
 | some (_,s)=>if X.clean.bG (cC rs s).1 = true∧(cC rs s).1.any X.ig = false then some (nD (cC rs s).1,kD 0 n (cC rs s).2) else none
 | none=>none
def zu (rs : List RV) (n : Nat) (s : ag) : Option Out:=if X.clean.bG (cC rs s).1 = true∧(cC rs s).1.any X.ig = false then some (nD (cC rs s).1,kD 0 n (cC rs s).2) else none
theorem az {L : bw} {T : ff} {f : FuncId} {b : A} {rs : List RV} {n : Nat} (h : T f = some ⟨b,rs,n⟩) {xs : List X} (hl : xs.length = n) : ev L T f xs = mE rs n (ai (ev L T) (ak T) b (iE xs)):=by
 rw [KE h]
 unfold uQ
 rw [if_pos hl]
 rfl
@[simp] theorem VM (rs : List RV) (n : Nat) (s : ag) : mE rs n (some (.ret,s)) = zu rs n s:=rfl
@[simp] theorem VL (rs : List RV) (n : Nat) (s : ag) : mE rs n (some (.normal,s)) = zu rs n s:=rfl
@[simp] theorem VK (rs : List RV) (n : Nat) : mE rs n none = none:=rfl
@[simp] theorem VJ (rs : List RV) (n : Nat) (c : Prop) [Decidable c] (a b : bF) : mE rs n (if c then a else b) = if c then mE rs n a else mE rs n b:=by split <;> rfl
@[simp] theorem WK (d : Option Nat) (s : ag) (r : X) (ps : List X) : kE d s (some (r,ps)) = some (dw d r s):=rfl
@[simp] theorem WJ (d : Option Nat) (s : ag) : kE d s none = none:=rfl
@[simp] theorem WI (d : Option Nat) (s : ag) (c : Prop) [Decidable c] (a b : Option Out) : kE d s (if c then a else b) = if c then kE d s a else kE d s b:=by split <;> rfl
end
attribute [simp] zu bJ iE tT tU cC kD post nD X.ig X.clean X.clean.bG X.clean.aR keep xS uE kZ oa
end M
namespace M
open Go
def qA (f0 z bytes : Nat) : bw:=fun f xs=>if f = f0 then (match xs with
 | [.row .af z' rows]=>if z' = z∧rows.length * bytes≤140737488355328∧jH rows = true∧(tw rows = true∨rows = []) then some (.row .own z rows,[.dead]) else none
 | _=>none) else none
def iY (L L' : bw) : bw:=fun f xs=>match L f xs with
 | some o=>some o
 | none=>L' f xs
theorem w7 [Bs] {P : Program} {L L' : bw} (h : L.Sound P) (h' : L'.Sound P) : (iY L L').Sound P:=fun f xs o e=>by
 unfold iY at e
 split at e
 ·rename_i o' e'
  cases e
  exact h f xs _ e'
 ·exact h' f xs _ e
end M
namespace M
open Go
def Q1 : X→Bool
 | .str s=>decide (s.size≤9223372036854775807)
 | x=>scalar x
def tn (f0 : FuncId) (g : List X→Option X) : bw:=fun f xs=>if f = f0 then (match g xs with
 | some r=>if xs.all scalar = true∧Q1 r = true then some (r,xs.map fun _=>.dead) else none
 | none=>none) else none
end M
namespace M
open Go Go.Sort
def kP [B : Bs] (w : World) : Prop:=∀ b,b < B.W0.heap.size→w.heap[b]? = B.W0.heap[b]?
theorem TabIs.same [B : Bs] {P : Program} {w : World} {n : String} {k : IntKind} {zs : List Int} (h : Lib.TabIs P B.W0 n k zs) (hw : kP w) : Lib.TabIs P w n k zs:=by
 unfold Lib.TabIs World.var? at h ⊢
 cases hg : P.globalNamed n with
 | none=>rw [hg] at h; cases h
 | some g =>
  rw [hg] at h
  simp only [Option.bind_some] at h ⊢
  have hlt : g < B.W0.heap.size:=by
   rcases Nat.lt_or_ge g B.W0.heap.size with h' | h'
   ·exact h'
   ·rw [Array.getElem?_eq_none h'] at h; cases h
  rw [hw g hlt]
  exact h
theorem Q3 {P : Program} {W : World} {name : String} {k : IntKind} {zs : List Int} {g : Nat} {t e : TypeId} {n : Nat}
  (hg : P.globalNamed name = some g) (hty : (P.globals[g]?).map (·.type) = some t) (ht : P.underlying t = some (.array n e)) (he : P.underlying e = some (.int k)) (hce : P.cellsOf e = 1) (hct : P.cellsOf t = n) :
  ∀ {l : List (String×DataW Unit)} {ps : List MemPlace},DataW.LaidVars P W l ps→(name,Lib.tabData k zs)∈l→Lib.TabIs P W name k zs
 | [],_,_,h=>by cases h
 | (nm,d) :: l,ps,h,hm=>by
  obtain ⟨g',t',cs,fuel,p,q,hg',ht',hvar,hd,hr,_⟩:=h
  rcases List.mem_cons.1 hm with hm | hm
  ·obtain ⟨rfl,rfl⟩:=Prod.mk.inj hm
   obtain rfl:=Option.some.inj (hg.symm.trans hg')
   obtain rfl:=Option.some.inj (hty.symm.trans ht')
   unfold Lib.TabIs
   rw [hvar,← Lib.cells_of_tab ht he hce hct hd]
  ·exact Q3 hg hty ht he hce hct hr hm
end M
namespace M
open Go
def lv : Ex×ag→bF
 | (.normal,_)=>none
 | (.ret,s)=>some (.ret,s)
 | (.exit i,s)=>some (.exit i,s)
def iu {β γ : Type} (go : β→γ→γ ⊕ (Ex×ag)) : List β→γ→γ ⊕ (Ex×ag)
 | [],g=>.inl g
 | b :: l,g=>match go b g with
  | .inl g'=>iu go l g'
  | .inr o=>.inr o
theorem wT {xt : Nat} {β γ : Type} {f : ag→bF} (l : List β) (st : Nat→γ→ag) (go : β→γ→γ ⊕ (Ex×ag)) (E : γ→ag) (Inv : Nat→γ→Prop) (g : γ) (h0 : Inv 0 g)
  (h : ∀ i b g,l[i]? = some b→i < l.length→Inv i g→f (st i g) = (match go b g with | .inl g'=>some (.normal,st (i + 1) g') | .inr o=>lv o))
  (hI : ∀ i b g g',l[i]? = some b→Inv i g→go b g = .inl g'→Inv (i + 1) g')
  (hend : ∀ g,Inv l.length g→f (st l.length g) = some (.exit xt,E g)) :
  aH f (st 0 g) = match iu go l g with | .inl g'=>some (.exit xt,E g') | .inr o=>lv o:=by
 suffices H : ∀ (r : List β) (i : Nat) (g : γ),Inv i g→l.drop i = r→i≤l.length→aH f (st i g) = match iu go r g with | .inl g'=>some (.exit xt,E g') | .inr o=>lv o from H l 0 g h0 rfl (Nat.zero_le _)
 intro r
 induction r with
 | nil =>
  intro i g hi hr hl
  have : i = l.length:=by
   have:=congrArg List.length hr
   simp at this
   omega
  subst this
  rw [iS,hend g hi]
  rfl
 | cons b r ih =>
  intro i g hi hr hl
  have hlt : i < l.length:=by
   rcases Nat.lt_or_ge i l.length with h | h
   ·exact h
   ·rw [List.drop_eq_nil_of_le h] at hr; cases hr
  have hb : l[i]? = some b:=by
   have:=List.drop_eq_getElem_cons hlt
   rw [hr] at this
   rw [List.getElem?_eq_getElem hlt]
   cases this; rfl
  have hr' : l.drop (i + 1) = r:=by
   have:=List.drop_eq_getElem_cons hlt
   rw [hr] at this
   cases this; rfl
  rw [iS,h i b g hb hlt hi]
  unfold iu
  cases hg : go b g with
  | inl g'=>exact ih (i + 1) g' (hI i b g g' hb hi hg) hr' hlt
  | inr o =>
   obtain ⟨e,s⟩:=o
   cases e <;> simp [di,lv]
def aF {α : Type} (p : α→Bool) (l : List α) : Bool:=l.all p
theorem kS {α : Type} {p : α→Bool} {l : List α} : aF p l = true↔∀ x∈l,p x = true:=List.all_eq_true
theorem bX {xt : Nat} {β : Type} {f : ag→bF} (l : List β) (st : Nat→ag) (p : β→Bool) (R E : ag)
  (h : ∀ i b,l[i]? = some b→i < l.length→f (st i) = if p b = true then some (.normal,st (i + 1)) else some (.ret,R))
  (hend : f (st l.length) = some (.exit xt,E)) :
  aH f (st 0) = if aF p l = true then some (.exit xt,E) else some (.ret,R):=by
 show _ = if l.all p = true then _ else _
 have H:=wT (f:=f) l (fun i (_ : Unit)=>st i) (fun b _=>if p b = true then .inl () else .inr (.ret,R)) (fun _=>E) (fun _ _=>True) () trivial
  (fun i b g hb hl _=>by rw [h i b hb hl]; by_cases hp : p b = true <;> simp [hp,lv]) (fun _ _ _ _ _ _ _=>trivial) fun _ _=>hend
 refine H.trans ?_
 have : ∀ r : List β,iu (fun b (_ : Unit)=>if p b = true then .inl () else .inr (Ex.ret,R)) r () = if r.all p = true then .inl () else .inr (.ret,R):=by
  intro r
  induction r with
  | nil=>rfl
  | cons b r ih =>
   simp only [iu]
   by_cases hp : p b = true
   ·simp [hp,ih]
   ·simp [hp]
 rw [this]
 by_cases hp : l.all p = true <;> simp [hp,lv]
theorem Bd {xt : Nat} {β γ : Type} {f : ag→bF} (l : List β) (st : Nat→γ→ag) (go : γ→β→γ) (E : γ→ag) (Inv : Nat→γ→Prop) (g : γ) (h0 : Inv 0 g)
  (h : ∀ i b g,l[i]? = some b→i < l.length→Inv i g→f (st i g) = some (.normal,st (i + 1) (go g b)))
  (hI : ∀ i b g,l[i]? = some b→Inv i g→Inv (i + 1) (go g b))
  (hend : ∀ g,Inv l.length g→f (st l.length g) = some (.exit xt,E g)) :
  aH f (st 0 g) = some (.exit xt,E (l.foldl go g)):=by
 refine (wT (f:=f) l st (fun b g=>.inl (go g b)) E Inv g h0 h (fun i b g g' hb hi e=>by cases e; exact hI i b g hb hi) hend).trans ?_
 have : ∀ (r : List β) (g : γ),iu (fun b g=>.inl (go g b)) r g = (.inl (r.foldl go g) : γ ⊕ (Ex×ag)):=by
  intro r
  induction r with
  | nil=>intro g; rfl
  | cons b r ih=>intro g; simp only [iu,List.foldl_cons]; exact ih _
 rw [this]
theorem iT {xt : Nat} {β : Type} {f : ag→bF} (l : List β) (st : Nat→ag) (E : ag)
  (h : ∀ i b,l[i]? = some b→i < l.length→f (st i) = some (.normal,st (i + 1)))
  (hend : f (st l.length) = some (.exit xt,E)) : aH f (st 0) = some (.exit xt,E) :=
 Bd l (fun i (_ : Unit)=>st i) (fun _ _=>()) (fun _=>E) (fun _ _=>True) () trivial (fun i b _ hb hl _=>h i b hb hl) (fun _ _ _ _ _=>trivial) fun _ _=>hend
theorem cz {n : Int} (h1 : -9223372036854775808≤n) (h2 : n≤9223372036854775807) : IntKind.i64.wrap n = n:=by
 simp only [IntKind.wrap,IntKind.signed,IntKind.bits,Bool.true_and,decide_eq_true_eq]
 split <;> rename_i h <;> simp at h <;> omega
theorem aM (n : Nat) (h : n < 9223372036854775807) : IntKind.i64.wrap (↑n + 1) = ↑n + 1:=cz (by omega) (by omega)
attribute [simp] base xI dX look BV tS Ba uG wY tu gj ei
abbrev ah:=List UInt8
@[simp] theorem WN (s : ah) : ByteArray.size ⟨s.toArray⟩ = s.length:=by simp [ByteArray.size]
@[simp] theorem str_inj (s t : ah) : ((⟨s.toArray⟩ : ByteArray) = ⟨t.toArray⟩)↔s = t:=by
 constructor
 ·intro h
  injection h with h
  simpa using congrArg Array.toList h
 ·rintro rfl; rfl
theorem Q0 (s t : ah) : (⟨s.toArray⟩ : ByteArray) ++ ⟨t.toArray⟩ = ⟨(s ++ t).toArray⟩:=by
 apply ByteArray.ext
 rw [ByteArray.data_append]
 simp
@[simp] def eS (s : ah) : List X:=[.str ⟨s.toArray⟩]
structure Wr where
 at_ : Int
 text : ah
 deriving DecidableEq
structure eo where
 cells : List ah
 pending : List Wr
 deriving DecidableEq
@[simp] def eW (w : Wr) : List X:=[.int .i64 w.at_,.str ⟨w.text.toArray⟩]
@[simp] def fU (m : Md) (d : eo) : List X:=[.row m 1 (d.cells.map eS),.row m 2 (d.pending.map eW)]
@[simp] theorem Wn (m : Md) (l : List ah) : X.bn m (l.map eS) = l.map eS:=by induction l <;> simp_all [X.bn,X.cI,X.md]
@[simp] theorem Ws (m : Md) (l : List Wr) : X.bn m (l.map eW) = l.map eW:=by induction l <;> simp_all [X.bn,X.cI,X.md]
@[simp] theorem UI (l : List ah) : X.clean.aR (l.map eS) = true:=by induction l <;> simp_all [X.clean.aR,X.clean.bG,X.clean]
@[simp] theorem UM (l : List Wr) : X.clean.aR (l.map eW) = true:=by induction l <;> simp_all [X.clean.aR,X.clean.bG,X.clean]
def cR {α : Type} (f : α→Int→Int) : List α→Int→Int
 | [],n=>n
 | a :: l,n=>if f a n < 0 then -1 else cR f l (f a n)
theorem lT {xt : Nat} {β : Type} {f : ag→bF} (l : List β) (st : Nat→Int→ag) (z : β→Int→Int) (R : ag) (E : Int→ag) (n : Int) (hn : 0≤n) (hm : n≤9223372036854775807)
  (hz : ∀ a n,z a n≤n∨z a n < 0)
  (h : ∀ i b n,l[i]? = some b→i < l.length→0≤n→n≤9223372036854775807→f (st i n) = if z b n < 0 then some (.ret,R) else some (.normal,st (i + 1) (z b n)))
  (hend : ∀ n,f (st l.length n) = some (.exit xt,E n)) :
  aH f (st 0 n) = if cR z l n < 0 then some (.ret,R) else some (.exit xt,E (cR z l n)):=by
 have H:=wT (f:=f) l st (fun b n=>if z b n < 0 then .inr (.ret,R) else .inl (z b n)) E (fun _ n=>0≤n∧n≤9223372036854775807) n ⟨hn,hm⟩
  (fun i b n hb hl hi=>by rw [h i b n hb hl hi.1 hi.2]; by_cases hp : z b n < 0 <;> simp [hp,lv]) (fun i b g g' hb hi hg=>by
   by_cases hp : z b g < 0
   ·simp [hp] at hg
   ·simp [hp] at hg
    have:=hz b g
    omega) fun g _=>hend g
 refine H.trans ?_
 have : ∀ (r : List β) (n : Int),0≤n→iu (fun b n=>if z b n < 0 then .inr (Ex.ret,R) else .inl (z b n)) r n = if cR z r n < 0 then .inr (.ret,R) else .inl (cR z r n):=by
  intro r
  induction r with
  | nil=>intro n hn; rw [if_neg (by simp [cR]; omega)]; rfl
  | cons b r ih =>
   intro n hn
   simp only [iu,cR]
   by_cases hp : z b n < 0
   ·simp [hp]
   ·simp only [hp,if_false]
    exact ih _ (by omega)
 rw [this l n hn]
 by_cases hp : cR z l n < 0 <;> simp [hp,lv]
theorem Pb {α β : Type} (l : List α) (e : α→β) (z : β) (g : β→β) {i : Nat} (hi : i < l.length) (hg : g z = e l[i]) :
  ((l.take i).map e ++ List.replicate (l.length - i) z).modify i g = (l.take (i + 1)).map e ++ List.replicate (l.length - (i + 1)) z:=by
 apply List.ext_getElem?
 intro j
 rw [List.getElem?_modify]
 rcases Nat.lt_trichotomy j i with h | h | h
 ·rw [List.getElem?_append_left (by simp; omega),List.getElem?_append_left (by simp; omega)]
  simp only [List.getElem?_map,List.getElem?_take,if_pos h,if_pos (Nat.lt_succ_of_lt h),if_neg (Nat.ne_of_gt h)]
  cases l[j]? <;> rfl
 ·subst h
  rw [List.getElem?_append_right (by simp; omega),List.getElem?_append_left (by simp; omega)]
  have : j - ((l.take j).map e).length = 0:=by simp; omega
  rw [this,List.getElem?_replicate_of_lt (by omega)]
  simp only [List.getElem?_map,List.getElem?_take,if_pos (Nat.lt_succ_self j),List.getElem?_eq_getElem hi,if_true,Option.map_some,← hg]
  rfl
 ·rw [List.getElem?_append_right (by simp; omega),List.getElem?_append_right (by simp; omega)]
  have h1 : j - ((l.take i).map e).length = j - i:=by simp; omega
  have h2 : j - ((l.take (i + 1)).map e).length = j - (i + 1):=by simp; omega
  rw [h1,h2,List.getElem?_replicate,List.getElem?_replicate]
  by_cases h3 : j < l.length
  ·rw [if_pos (by omega),if_pos (by omega)]
   simp only [Nat.ne_of_lt h,if_false]
   rfl
  ·rw [if_neg (by omega),if_neg (by omega)]
   rfl
def cD (rows : List (List X)) (i : Nat) (z : List X) : List (List X):=rows.take i ++ List.replicate (rows.length - i) z
@[simp] theorem VH (rows : List (List X)) (i : Nat) (z : List X) : (cD rows i z).length = rows.length:=by simp [cD]; omega
@[simp] theorem KI (rows : List (List X)) (i : Nat) (z : List X) (h : i < rows.length) : (cD rows i z)[i]? = some z:=by
 unfold cD
 rw [List.getElem?_append_right (by simp; omega),List.getElem?_replicate_of_lt (by simp; omega)]
@[simp] theorem VG (rows : List (List X)) (i : Nat) (z : List X) (h : i < (cD rows i z).length) : (cD rows i z)[i] = z:=by
 have h' : i < rows.length:=by simpa using h
 have:=KI rows i z h'
 rw [List.getElem?_eq_getElem h] at this
 exact Option.some.inj this
@[simp] theorem VI (rows : List (List X)) (z : List X) : cD rows 0 z = List.replicate rows.length z:=by simp [cD]
@[simp] theorem VF (rows : List (List X)) (i : Nat) (z : List X) (h : i = rows.length) : cD rows i z = rows:=by subst h; simp [cD]
@[simp] theorem ez (rows : List (List X)) (i : Nat) (z : List X) (g : List X→List X) (h : i < rows.length) (hg : g z = rows[i]) : (cD rows i z).modify i g = cD rows (i + 1) z:=by
 have:=Pb rows id z g h (by simpa using hg)
 simpa [cD] using this
theorem kA {α : Type} (l : List α) (i : Nat) (f g : α→α) : (l.modify i f).modify i g = l.modify i fun x=>g (f x):=by
 apply List.ext_getElem?
 intro j
 simp only [List.getElem?_modify]
 by_cases h : i = j
 ·simp only [h,if_true]; cases l[j]? <;> rfl
 ·simp only [h,if_false]; cases l[j]? <;> rfl
theorem iB {α β : Type} : ∀ {a : List α} {b : List β},a.length = b.length→∃ ps : List (α×β),a = ps.map Prod.fst∧b = ps.map Prod.snd
 | [],[],_=>⟨[],rfl,rfl⟩
 | x :: a,y :: b,h=>by
  obtain ⟨ps,h1,h2⟩:=iB (a:=a) (b:=b) (by simpa using h)
  exact ⟨(x,y) :: ps,by simp [← h1],by simp [← h2]⟩
 | [],_ :: _,h=>by cases h
 | _ :: _,[],h=>by cases h
def bH {α : Type} [DecidableEq α] (x : α×α) : Bool:=decide (x.1 = x.2)
theorem gQ {α : Type} [DecidableEq α] : ∀ ps : List (α×α),aF bH ps = decide (ps.map Prod.fst = ps.map Prod.snd)
 | []=>rfl
 | x :: ps=>by
  have:=gQ ps
  unfold aF at this ⊢
  simp only [List.all_cons,this,bH,List.map_cons,List.cons.injEq]
  exact (Bool.decide_and ..).symm
def jl (new old : List (List X)) (i : Nat) : List (List X):=new.take i ++ old.drop i
@[simp] theorem Dy (new old : List (List X)) (i : Nat) (h : new.length = old.length) : (jl new old i).length = old.length:=by simp [jl]; omega
@[simp] theorem KH (new old : List (List X)) (i : Nat) (h : new.length = old.length) (hi : i < old.length) : (jl new old i)[i]? = old[i]?:=by
 unfold jl
 rw [List.getElem?_append_right (by simp; omega),List.getElem?_drop]
 congr 1
 simp; omega
@[simp] theorem VD (new old : List (List X)) (i : Nat) (hl : i < (jl new old i).length) (h : new.length = old.length) : (jl new old i)[i] = old[i]'(by rw [Dy _ _ _ h] at hl; exact hl):=by
 have hi : i < old.length:=by rw [Dy _ _ _ h] at hl; exact hl
 have:=KH new old i h hi
 rw [List.getElem?_eq_getElem hl,List.getElem?_eq_getElem hi] at this
 exact Option.some.inj this
@[simp] theorem VE (new old : List (List X)) : jl new old 0 = old:=by simp [jl]
@[simp] theorem VC (new old : List (List X)) (i : Nat) (h : new.length = old.length) (hi : i = old.length) : jl new old i = new:=by subst hi; rw [← h]; simp [jl]; omega
def nu (n : Nat) (out : ah) : ah:=if h : n = 0 then out else nu (n / 10) (UInt8.ofNat (48 + n % 10) :: out)
termination_by n
decreasing_by omega
def sQ (k : Int) : ah:=if k≤0 then [109,48] else 109 :: nu k.toNat []
def sR (n : Nat) (k : Int) : List ah:=(List.range n).map fun (i : Nat)=>sQ (k + i)
def sS (n : Nat) (k : Int) : List Wr:=(List.range n).map fun (i : Nat)=>⟨k + 2 * i,sQ (k + 2 * i + 1)⟩
@[simp] theorem V7 (n : Nat) (k : Int) : (sR n k).length = n:=by simp [sR]
@[simp] theorem V9 (n : Nat) (k : Int) : (sS n k).length = n:=by simp [sS]
@[simp] theorem V6 (n : Nat) (k : Int) (i : Nat) (h : i < (sR n k).length) : (sR n k)[i] = sQ (k + i):=by simp [sR]
@[simp] theorem V8 (n : Nat) (k : Int) (i : Nat) (h : i < (sS n k).length) : (sS n k)[i] = ⟨k + 2 * i,sQ (k + 2 * i + 1)⟩:=by simp [sS]
def foldI {β γ : Type} (go : Nat→γ→β→γ) : Nat→List β→γ→γ
 | _,[],g=>g
 | i,b :: l,g=>foldI go (i + 1) l (go i g b)
theorem EW {xt : Nat} {β γ : Type} {f : ag→bF} (l : List β) (st : Nat→γ→ag) (go : Nat→γ→β→γ) (E : γ→ag) (Inv : Nat→γ→Prop) (g : γ) (h0 : Inv 0 g)
  (h : ∀ i b g,l[i]? = some b→i < l.length→Inv i g→f (st i g) = some (.normal,st (i + 1) (go i g b)))
  (hI : ∀ i b g,l[i]? = some b→Inv i g→Inv (i + 1) (go i g b))
  (hend : ∀ g,Inv l.length g→f (st l.length g) = some (.exit xt,E g)) :
  aH f (st 0 g) = some (.exit xt,E (foldI go 0 l g)):=by
 suffices H : ∀ (r : List β) (i : Nat) (g : γ),Inv i g→l.drop i = r→i≤l.length→aH f (st i g) = some (.exit xt,E (foldI go i r g)) from H l 0 g h0 rfl (Nat.zero_le _)
 intro r
 induction r with
 | nil =>
  intro i g hi hr hl
  have : i = l.length:=by
   have:=congrArg List.length hr
   simp at this
   omega
  subst this
  rw [iS,hend g hi]
  rfl
 | cons b r ih =>
  intro i g hi hr hl
  have hlt : i < l.length:=by
   rcases Nat.lt_or_ge i l.length with h | h
   ·exact h
   ·rw [List.drop_eq_nil_of_le h] at hr; cases hr
  have hd:=List.drop_eq_getElem_cons hlt
  rw [hr] at hd
  have hb : l[i]? = some b:=by
   rw [List.getElem?_eq_getElem hlt]
   cases hd; rfl
  have hr' : l.drop (i + 1) = r:=by cases hd; rfl
  rw [iS,h i b g hb hlt hi]
  exact ih (i + 1) _ (hI i b g hb hi) hr' hlt
@[simp] theorem Wt (cs : List ah) (n : Nat) (t : ah) : (cs.map eS).modify n (fun x=>x.set 0 (X.str ⟨t.toArray⟩)) = (cs.set n t).map eS:=by
 apply List.ext_getElem?
 intro j
 rw [List.getElem?_modify,List.getElem?_map,List.getElem?_map,List.getElem?_set]
 by_cases h : n = j
 ·subst h
  simp only [if_true]
  by_cases h2 : n < cs.length
  ·simp [h2]
  ·simp [h2,List.getElem?_eq_none (Nat.le_of_not_lt h2)]
 ·simp only [h,if_false]
  cases cs[j]? <;> rfl
@[simp] def eB (b : Bool) : List X:=[.bool b]
@[simp] theorem Wb (m : Md) (l : List Bool) : X.bn m (l.map eB) = l.map eB:=by induction l <;> simp_all [X.bn,X.cI,X.md]
@[simp] theorem Uw (l : List Bool) : X.clean.aR (l.map eB) = true:=by induction l <;> simp_all [X.clean.aR,X.clean.bG,X.clean]
theorem QI (l : List ah) : jH (l.map eS) = true:=by induction l <;> simp_all [jH,scalar]
theorem QJ (l : List Wr) : jH (l.map eW) = true:=by induction l <;> simp_all [jH,scalar]
attribute [simp] QI QJ
@[simp] theorem Uv (a b : List (List X)) : X.clean.aR (a ++ b) = (X.clean.aR a && X.clean.aR b):=by
 induction a with
 | nil=>simp [X.clean.aR]
 | cons e a ih=>simp [X.clean.aR,ih,Bool.and_assoc]
@[simp] theorem Wa (m : Md) (a b : List (List X)) : X.bn m (a ++ b) = X.bn m a ++ X.bn m b:=by
 induction a with
 | nil=>simp [X.bn]
 | cons e a ih=>simp [X.bn,ih]
structure jK where
 code : List UInt8
 i : Nat
 h : Int
 hi : i≤code.length
 hl : code.length≤9223372036854775807
@[simp] def eU (b : UInt8) : List X:=[.int .u8 (b.toNat : Int)]
@[simp] theorem Wq (m : Md) (l : List UInt8) : X.bn m (l.map eU) = l.map eU:=by induction l <;> simp_all [X.bn,X.cI,X.md]
@[simp] theorem UL (l : List UInt8) : X.clean.aR (l.map eU) = true:=by induction l <;> simp_all [X.clean.aR,X.clean.bG,X.clean]
def fT (c : jK) : List X:=[.row .sl 1 (c.code.map eU),.int .i64 c.i,.int .i64 c.h]
@[simp] theorem Vf (c : jK) : (fT c).length = 3:=rfl
@[simp] theorem Vh (c : jK) : (fT c).take 3 = fT c:=rfl
@[simp] theorem Vc (c : jK) : (fT c).drop 3 = []:=rfl
@[simp] theorem Vg (ks : List Nat) (c : jK) : X.kB ks (fT c) = fT c:=rfl
@[simp] theorem Vd (r : Nat) (p : Path) (c : jK) : X.dW r p (fT c) = fT c:=rfl
@[simp] theorem Ve (r : Nat) (p : Path) (c : jK) : X.kn r p (fT c) = fT c:=rfl
@[simp] theorem Vb (c : jK) : X.clean.bG (fT c) = true:=by simp [fT,X.clean.bG,X.clean]
@[simp] theorem Va (c : jK) : X.bare.fj (fT c) = true:=by simp [fT,X.bare.fj,X.bare]
end M
namespace M
open Go Go.RowKit
inductive Ty where
 | int (k : IntKind)
 | bool
 | str
 | row (ts : List Ty)
inductive eM : Ty→X→Prop
 | int {k n} : (Lit.int k n).wf = true→eM (.int k) (.int k n)
 | bool {b} : eM .bool (.bool b)
 | str {s : ByteArray} : s.size≤maxLen→eM .str (.str s)
 | row {ts xs} : xs.length≤maxLen→(∀ r : List X,r∈xs→r.length = ts.length)→(∀ (r : List X),r∈xs→∀ (j : Nat) ty x,ts[j]? = some ty→r[j]? = some x→eM ty x)→eM (.row ts) (.row .sl ts.length xs)
structure uu (w : World) (ty : Ty) (c : C) : Prop where
 cell : c.cell
 bP : c.bP
 fits : c.fits .sl
 ok : c.ok w (Zf (fun b _=>b < w.heap.size) fun _ _=>False)
 fp : ∀ b k,¬ c.fp b k
 qB : eM ty c.er
def gx (w : World) : List Ty→List Value→List C→Prop
 | [],[],[]=>True
 | ty :: ts,v :: vs,c :: cs=>c.val = v∧uu w ty c∧gx w ts vs cs
 | _,_,_=>False
theorem DZ {w : World} : ∀ {ts : List Ty} {vs : List Value} {cs : List C} {ts' : List Ty} {vs' : List Value} {cs' : List C},gx w ts vs cs→gx w ts' vs' cs'→gx w (ts ++ ts') (vs ++ vs') (cs ++ cs')
 | [],[],[],_,_,_,_,h=>h
 | _ :: _,_ :: _,_ :: _,_,_,_,⟨h1,h2,h3⟩,h=>⟨h1,h2,DZ h3 h⟩
theorem D0 {w : World} : ∀ {ts : List Ty} {vs : List Value} {cs : List C},gx w ts vs cs→vs.length = ts.length∧cs.length = ts.length∧vs = cs.map C.val
 | [],[],[],_=>⟨rfl,rfl,rfl⟩
 | _ :: _,_ :: _,_ :: _,⟨h1,h2,h3⟩=>by
  obtain ⟨e1,e2,e3⟩:=D0 h3
  exact ⟨by simp [e1],by simp [e2],by simp [h1,← e3]⟩
theorem zH {w : World} : ∀ {ts : List Ty} {vs : List Value} {cs : List C},gx w ts vs cs→∀ {j : Nat},j < ts.length→∃ ty c,ts[j]? = some ty∧cs[j]? = some c∧vs[j]? = some c.val∧uu w ty c
 | ty :: ts,v :: vs,c :: cs,⟨h1,h2,h3⟩,0,_=>⟨ty,c,rfl,rfl,by simp [h1],h2⟩
 | ty :: ts,v :: vs,c :: cs,⟨h1,h2,h3⟩,j + 1,h=>by
  obtain ⟨ty,c,a1,a2,a3,a4⟩:=zH h3 (j:=j) (by simpa using h)
  exact ⟨ty,c,by simpa using a1,by simpa using a2,by simpa using a3,a4⟩
def qg (P : Program) (r : TypeId→Option (List Ty)) : Nat→List Field→Option (List Ty)
 | _,[]=>some []
 | o,f :: fs=>if f.offset = o then (r f.type).bind fun ts=>if ts.length = P.cellsOf f.type then (qg P r (o + ts.length) fs).map (ts ++ ·) else none else none
def fe (P : Program) : Nat→Bool→TypeId→Option (List Ty)
 | 0,_,_=>none
 | n + 1,deep,t=>match P.underlying t with
  | some .bool=>some [.bool]
  | some (.int k)=>some [.int k]
  | some .string=>some [.str]
  | some (.slice e)=>if deep then (fe P n true e).bind fun ts=>if ts.length = P.cellsOf e∧0 < P.cellsOf e then some [.row ts] else none else none
  | some (.struct fs)=>(qg P (fe P n deep) 0 fs.toList).bind fun ts=>if ts.length = P.cellsOf t then some ts else none
  | _=>none
section
variable {H : Type} {enc : TypeId×Value→H} {P : Program} {w : World} {sp : Nat→Bool} {held : Bool}
theorem F7 {r : TypeId→Option (List Ty)} {cs : List Value}
  (hr : ∀ t ts fuel cs' x,r t = some ts→DataW.trod enc P w 0 sp held fuel t cs' = some x→(∀ v∈cs',v∈cs)→∃ Cs,gx w ts cs' Cs) :
  ∀ (fs : List Field) (o : Nat) (ts : List Ty),qg P r o fs = some ts→(∀ f∈fs,∃ fuel x,DataW.trod enc P w 0 sp held fuel f.type ((cs.drop f.offset).take (P.cellsOf f.type)) = some x) →
   ∃ Cs,gx w ts ((cs.drop o).take ts.length) Cs
 | [],o,ts,h,_=>by
  cases h
  exact ⟨[],by simp [gx]⟩
 | f :: fs,o,ts,h,hx=>by
  simp only [qg] at h
  split at h
  ·rename_i ho
   simp only [Option.bind_eq_some_iff] at h
   obtain ⟨t1,h1,h⟩:=h
   split at h
   ·rename_i hl
    simp only [Option.map_eq_some_iff] at h
    obtain ⟨t2,h2,rfl⟩:=h
    obtain ⟨fuel,x,hf⟩:=hx f (List.mem_cons_self ..)
    obtain ⟨C1,g1⟩:=hr _ _ _ _ _ h1 hf fun v hv=>List.mem_of_mem_drop (List.mem_of_mem_take hv)
    obtain ⟨C2,g2⟩:=F7 hr fs _ _ h2 fun f hf=>hx f (List.mem_cons_of_mem _ hf)
    refine ⟨C1 ++ C2,?_⟩
    rw [List.length_append,List.take_add,List.drop_drop]
    rw [ho,← hl] at g1
    exact DZ g1 g2
   ·cases h
  ·cases h
theorem QU {w : World} {g o n m : Nat} {spot : Option Nat} {vs : List Value} (hn : 0 < n) (h : w.cells? 0 ((⟨g,o,spot⟩ : Addr).add (0 * m)) n = some vs) : spot = none:=by
 obtain ⟨_,hl,e3⟩:=World.cells?_some h
 have e4:=e3 0 hn
 have : ∃ v,vs[0]? = some v:=⟨vs[0],List.getElem?_eq_getElem (by omega)⟩
 obtain ⟨v,hv⟩:=this
 rw [hv] at e4
 have ha : ((⟨g,o,spot⟩ : Addr).add (0 * m)).add 0 = ⟨g,o,spot⟩:=by simp [Addr.add]
 rw [ha] at e4
 unfold World.cell? at e4
 cases spot with
 | none=>rfl
 | some k =>
  split at e4
  ·simp at e4
  ·cases e4
theorem trod_good : ∀ (n : Nat) (deep : Bool) (t : TypeId) (ts : List Ty),fe P n deep t = some ts→∀ (fuel : Nat) (cs : List Value) (x : DataW H×List MemPlace),DataW.trod enc P w 0 sp held fuel t cs = some x→∃ Cs,gx w ts cs Cs
 | 0,_,_,_,h,_,_,_,_=>by cases h
 | n + 1,deep,t,ts,h,fuel,cs,x,hx=>by
  simp only [fe] at h
  split at h
  ·rename_i hu
   cases h
   obtain ⟨b,rfl,rfl⟩:=DataW.trod_bool hu hx
   exact ⟨[.bool b],rfl,⟨trivial,trivial,trivial,trivial,fun _ _ h=>h,.bool⟩,trivial⟩
  ·rename_i k hu
   cases h
   obtain ⟨m,rfl,rfl,hw⟩:=DataW.trod_int hu hx
   exact ⟨[.int k m],rfl,⟨trivial,trivial,trivial,trivial,fun _ _ h=>h,.int hw⟩,trivial⟩
  ·rename_i hu
   cases h
   obtain ⟨s,rfl,rfl,hw⟩:=DataW.trod_string hu hx
   exact ⟨[.str s],rfl,⟨trivial,trivial,trivial,hw,fun _ _ h=>h,.str hw⟩,trivial⟩
  ·rename_i e hu
   split at h
   ·rename_i hd
    simp only [Option.bind_eq_some_iff] at h
    obtain ⟨te,h1,h⟩:=h
    split at h
    ·rename_i hl
     obtain ⟨hl,hpos⟩:=hl
     cases h
     rcases DataW.trod_slice hu hx with ⟨rfl,rfl⟩ | ⟨a,len,cap,elems,rest,m,rfl,rfl,rfl,_,hlc,hcm,hel,jq,_,_⟩
     ·refine ⟨[.row .sl te.length none 0 0 fun _ _=>.dead undef],rfl,⟨trivial,trivial,.inr (.inl rfl),⟨Nat.le_refl _,fun i j hi=>by omega,fun i j hi=>by omega,fun h=>(by cases h),fun i j hi=>by omega⟩,fun b k h=>(by cases h.1),?_⟩,trivial⟩
      exact eM.row (xs:=[]) (by simp) (fun r hr=>by cases hr) (fun r hr=>by cases hr)
     ·obtain ⟨g,o,spot⟩:=a
      by_cases hl0 : len = 0
      ·subst hl0
       refine ⟨[.row .sl te.length (some (g,o,spot)) 0 cap fun _ _=>.dead undef],rfl,⟨trivial,trivial,.inr (.inl rfl),⟨hlc,fun i j hi=>by omega,fun i j hi=>by omega,fun h=>(by cases h),fun i j hi=>by omega⟩,fun b k h=>(by cases h.1),?_⟩,trivial⟩
       exact eM.row (xs:=[]) (by simp) (fun r hr=>by cases hr) (fun r hr=>by cases hr)
      have Oh : spot = none:=by
       have:=jq 0 (by omega)
       rw [List.getElem?_eq_getElem (by omega),Option.bind_eq_some_iff] at this
       obtain ⟨vs,e1,e2⟩:=this
       exact QU hpos e1
      subst Oh
      have hex : ∀ i,∃ (vs : List Value) (l : List C),i < len→w.cells? 0 ((⟨g,o,none⟩ : Addr).add (i * P.cellsOf e)) (P.cellsOf e) = some vs∧gx w te vs l:=fun i=>by
       by_cases hi : i < len
       ·have:=jq i hi
        rw [List.getElem?_eq_getElem (by omega),Option.bind_eq_some_iff] at this
        obtain ⟨vs,e1,e2⟩:=this
        obtain ⟨l,hl⟩:=trod_good n true _ _ h1 _ _ _ e2
        exact ⟨vs,l,fun _=>⟨e1,hl⟩⟩
       ·exact ⟨[],[],fun h=>(hi h).elim⟩
      let vs:=fun i=>(hex i).choose
      let l:=fun i=>(hex i).choose_spec.choose
      have hvl : ∀ i,i < len→w.cells? 0 ((⟨g,o,none⟩ : Addr).add (i * P.cellsOf e)) (P.cellsOf e) = some (vs i)∧gx w te (vs i) (l i):=fun i=>(hex i).choose_spec.choose_spec
      have hij : ∀ i j,i < len→j < te.length→∃ ty,te[j]? = some ty∧(l i)[j]? = some ((l i).getD j (.dead undef))∧w.cell? ⟨g,o + i * te.length + j,none⟩ = some ((l i).getD j (.dead undef)).val∧uu w ty ((l i).getD j (.dead undef)):=fun i j hi hj=>by
       obtain ⟨e1,e2⟩:=hvl i hi
       obtain ⟨ty,c,a1,a2,a3,a4⟩:=zH e2 hj
       have hc : (l i).getD j (.dead undef) = c:=by rw [List.getD_eq_getElem?_getD,a2]; rfl
       rw [hc]
       obtain ⟨_,_,e3⟩:=World.cells?_some e1
       have e4:=e3 j (by omega)
       rw [a3] at e4
       refine ⟨ty,a1,a2,?_,a4⟩
       rw [← e4]
       congr 1
       rw [hl]
       unfold Addr.add
       split <;> split <;> simp_all
      have hb : ∀ i j,i < len→j < te.length→g < w.heap.size:=fun i j hi hj=>by
       obtain ⟨_,_,_,h3,_⟩:=hij i j hi hj
       exact World.block_lt_of_cell? w _ h3
      refine ⟨[.row .sl te.length (some (g,o,none)) len cap fun i j=>(l i).getD j (.dead undef)],rfl,⟨trivial,trivial,.inr (.inl rfl),⟨hlc,fun i j hi hj=>⟨g,o,rfl,?_,fun _=>hb i j hi hj⟩,fun i j hi hj=>?_,fun h=>(by cases h),fun i j hi hj b k hf=>?_⟩,fun b k h=>(by cases h.1),?_⟩,trivial⟩
      ·obtain ⟨ty,_,_,h3,h4⟩:=hij i j hi hj
       exact h3
      ·obtain ⟨ty,_,_,h3,h4⟩:=hij i j hi hj
       exact ⟨h4.cell,h4.bP,h4.fits,h4.ok⟩
      ·obtain ⟨ty,_,_,h3,h4⟩:=hij i j hi hj
       exact (h4.fp b k hf).elim
      ·refine eM.row (by simpa using Nat.le_trans hlc hcm) (fun r hr=>?_) fun r hr j ty x hty z8=>?_
       ·simp only [List.mem_map,List.mem_range] at hr
        obtain ⟨i,_,rfl⟩:=hr
        simp
       ·simp only [List.mem_map,List.mem_range] at hr
        obtain ⟨i,hi,rfl⟩:=hr
        have hj : j < te.length:=by
         rcases Nat.lt_or_ge j te.length with h | h
         ·exact h
         ·rw [List.getElem?_eq_none h] at hty; cases hty
        obtain ⟨ty',e1,_,_,h4⟩:=hij i j hi hj
        rw [e1] at hty
        cases hty
        rw [List.getElem?_map,List.getElem?_range hj] at z8
        simp only [Option.map_some,Option.some.injEq] at z8
        subst z8
        exact h4.qB
    ·cases h
   ·cases h
  ·rename_i fs hu
   simp only [Option.bind_eq_some_iff] at h
   obtain ⟨te,h1,h⟩:=h
   split at h
   ·rename_i hl
    cases h
    obtain ⟨xs,m,rfl,rfl,hcs,hxl,jq⟩:=DataW.trod_struct hu hx
    obtain ⟨Cs,hC⟩:=F7 (cs:=cs) (fun t ts' fuel cs' x hr ht hm=>trod_good n deep t ts' hr fuel cs' x ht) fs.toList 0 ts h1 fun f hf=>by
     obtain ⟨i,hi,rfl⟩:=List.getElem_of_mem hf
     have hi' : i < fs.size:=by simpa using hi
     have:=jq i (fs[i]) (by simp [hi'])
     rw [List.getElem?_eq_getElem (by omega)] at this
     exact ⟨_,_,by simpa using this⟩
    refine ⟨Cs,?_⟩
    rw [List.drop_zero,hl,← hcs,List.take_length] at hC
    exact hC
   ·cases h
  ·cases h
theorem B8 : ∀ (n : Nat) (deep : Bool) (t : TypeId) (ts : List Ty),fe P n deep t = some ts→∀ (fuel : Nat) (cs : List Value) (x : DataW H×List MemPlace),DataW.trod enc P w 0 (fun _=>true) held fuel t cs = some x→DataW.trod enc P w 0 (fun b=>decide (b < w.heap.size)) held fuel t cs = some x
 | 0,_,_,_,h,_,_,_,_=>by cases h
 | n + 1,deep,t,ts,h,0,cs,x,hx=>by simp [DataW.trod] at hx
 | n + 1,deep,t,ts,h,fuel + 1,cs,x,hx=>by
  simp only [fe] at h
  split at h
  ·rename_i hu
   obtain ⟨b,rfl,rfl⟩:=DataW.trod_bool hu hx
   simp [DataW.trod,hu]
  ·rename_i k hu
   obtain ⟨m,rfl,rfl,hw⟩:=DataW.trod_int hu hx
   simp [DataW.trod,hu,hw]
  ·rename_i hu
   obtain ⟨s,rfl,rfl,hw⟩:=DataW.trod_string hu hx
   simp [DataW.trod,hu,hw]
  ·rename_i e hu
   split at h
   ·simp only [Option.bind_eq_some_iff] at h
    obtain ⟨te,h1,h⟩:=h
    split at h
    ·rename_i hl
     obtain ⟨hl,hpos⟩:=hl
     rcases DataW.trod_slice hu hx with ⟨rfl,rfl⟩ | ⟨a,len,cap,elems',rest',m,_,rfl,_⟩
     ·simp [DataW.trod,hu]
     ·unfold DataW.trod at hx ⊢
      simp only [hu] at hx ⊢
      split at hx
      ·rename_i hc
       rw [if_pos hc]
       simp only [Option.map_eq_some_iff,Option.bind_eq_some_iff,if_true] at hx ⊢
       obtain ⟨elems,he,rest,mM,rfl⟩:=hx
       have one : ∀ (i : Nat) (y : DataW H×List MemPlace),(w.cells? 0 (a.add (i * P.cellsOf e)) (P.cellsOf e)).bind (DataW.trod enc P w 0 (fun _=>true) held fuel e) = some y→(w.cells? 0 (a.add (i * P.cellsOf e)) (P.cellsOf e)).bind (DataW.trod enc P w 0 (fun b=>decide (b < w.heap.size)) held fuel e) = some y:=fun i y hv=>by
        simp only [Option.bind_eq_some_iff] at hv ⊢
        obtain ⟨cs',fK,hy'⟩:=hv
        exact ⟨cs',fK,B8 n true _ _ h1 _ _ _ hy'⟩
       refine ⟨elems,mapM_carry he fun i y _ _ hv=>one i y hv,rest,?_,rfl⟩
       by_cases hb : a.block < w.heap.size
       ·rw [if_pos (by simpa using hb)]
        exact mapM_carry mM fun i y _ _ hv=>one (len + i) y hv
       ·rw [if_neg (by simpa using hb)]
        have : cap - len = 0:=by
         rcases Nat.eq_zero_or_pos (cap - len) with h | h
         ·exact h
         ·have h0:=mapM_some_get mM 0 0 (by simp [h])
          have hl' : 0 < rest.length:=by have:=mapM_some_length mM; simp at this; omega
          rw [List.getElem?_eq_getElem hl',Option.bind_eq_some_iff] at h0
          obtain ⟨vs,e1,_⟩:=h0
          have:=World.cells?_block e1 hpos
          refine (hb ?_).elim
          unfold Addr.add at this
          split at this <;> exact this
        rw [this] at mM
        exact mM
      ·cases hx
    ·cases h
   ·cases h
  ·rename_i fs hu
   simp only [Option.bind_eq_some_iff] at h
   obtain ⟨te,h1,h⟩:=h
   unfold DataW.trod at hx ⊢
   simp only [hu] at hx ⊢
   have each : ∀ (o : Nat) (l : List Field) (ts : List Ty),qg P (fe P n deep) o l = some ts→∀ f∈l,∃ t1,fe P n deep f.type = some t1:=by
    intro o l
    induction l generalizing o with
    | nil=>intro _ _ f hf; cases hf
    | cons f l ih =>
     intro ts h f' hf'
     simp only [qg] at h
     split at h
     ·simp only [Option.bind_eq_some_iff] at h
      obtain ⟨t1,e1,h⟩:=h
      split at h
      ·simp only [Option.map_eq_some_iff] at h
       obtain ⟨t2,e2,_⟩:=h
       rcases List.mem_cons.1 hf' with rfl | hf'
       ·exact ⟨t1,e1⟩
       ·exact ih _ _ e2 f' hf'
      ·cases h
     ·cases h
   split at hx
   ·rename_i hc
    rw [if_pos hc]
    simp only [Option.map_eq_some_iff] at hx ⊢
    obtain ⟨xs,hx,rfl⟩:=hx
    refine ⟨xs,mapM_carry hx fun f y hf _ hv=>?_,rfl⟩
    obtain ⟨t1,e1⟩:=each _ _ _ h1 f hf
    exact B8 n deep _ _ e1 _ _ _ hv
   ·cases hx
  ·cases h
inductive iC where
 | one (ty : Ty)
 | agg (tys : List Ty)
inductive kL : iC→X→Prop
 | one {ty x} : eM ty x→kL (.one ty) x
 | agg {tys : List Ty} {l : List X} : l.length = tys.length→(∀ (j : Nat) ty x,tys[j]? = some ty→l[j]? = some x→eM ty x)→kL (.agg tys) (.agg l)
def mh (P : Program) (t : TypeId) : Option iC:=match P.underlying t with
 | some (.struct _)=>(fe P 20 true t).map .agg
 | some .bool=>some (.one .bool)
 | some (.int k)=>some (.one (.int k))
 | some .string=>some (.one .str)
 | some (.slice _)=>(fe P 20 true t).bind fun
  | [ty]=>some (.one ty)
  | _=>none
 | _=>none
theorem Cz {c : C} (h1 : c.cell) (h2 : c.bP) : c.bare:=by
 cases c <;> first | trivial | exact h2.elim
structure Cn (w : World) (a : iC) (v : Value) (c : C) : Prop where
 val : c.val = v
 ok : c.ok w (Zf (fun b _=>b < w.heap.size) fun _ _=>False)
 bare : c.bare
 fp : ∀ b k,¬ c.fp b k
 qB : kL a c.er
theorem uZ {ty : Ty} {cs : List Value} {Cs : List C} {v : Value} (h : gx w [ty] cs Cs) (e : cs = [v]) : ∃ c,Cn w (.one ty) v c:=by
 subst e
 match Cs,h with
 | [c],⟨h1,h2,_⟩=>exact ⟨c,h1,h2.ok,Cz h2.cell h2.bP,h2.fp,.one h2.qB⟩
theorem Ia {r : Reach} {base : Nat} {t : TypeId} {v : Value} {d : DataW H} {p : List MemPlace} {a : iC} (ha : mh P t = some a) (hv : Value.okWide P w r base t v) (hd : DataW.Trod enc P w 0 sp held t v d p) : ∃ c,Cn w a v c:=by
 obtain ⟨fuel,hf⟩:=hd
 unfold mh at ha
 split at ha
 ·rename_i fs hu
  simp only [Option.map_eq_some_iff] at ha
  obtain ⟨ts,ht,rfl⟩:=ha
  unfold Value.okWide at hv
  rw [hu] at hv
  obtain ⟨cs,rfl,_,ts',_,_,hcell⟩:=hv
  obtain ⟨Cs,hC⟩:=trod_good _ _ _ _ ht _ _ _ hf
  obtain ⟨l1,l2,l3⟩:=D0 hC
  have jq : ∀ j,j < Cs.length→∃ ty,ts[j]? = some ty∧uu w ty (Cs.getD j (.dead undef)):=fun j hj=>by
   obtain ⟨ty,c,a1,a2,a3,a4⟩:=zH hC (j:=j) (by omega)
   exact ⟨ty,a1,by rw [List.getD_eq_getElem?_getD,a2]; exact a4⟩
  refine ⟨.agg Cs.length fun j=>Cs.getD j (.dead undef),?_,⟨fun j hj=>?_,fun j hj b k hf=>?_⟩,fun j hj=>?_,fun b k ⟨j,hj,hf⟩=>?_,?_⟩
  ·show Value.agg _ = _
   congr 1
   apply Array.ext'
   show (List.range Cs.length).map (fun j=>(Cs.getD j (.dead undef)).val) = cs.toList
   have : (Value.agg cs).cells.toList = cs.toList:=rfl
   rw [← this,l3]
   letI : Bs:=⟨w⟩
   exact iq Cs _ C.val
  ·obtain ⟨_,_,h⟩:=jq j hj; exact ⟨h.cell,h.ok⟩
  ·obtain ⟨_,_,h⟩:=jq j hj; exact (h.fp b k hf).elim
  ·obtain ⟨_,_,h⟩:=jq j hj; exact Cz h.cell h.bP
  ·obtain ⟨_,_,h⟩:=jq j hj; exact h.fp b k hf
  ·refine kL.agg (by simpa using l2) fun j ty x hty hx=>?_
   have hj : j < Cs.length:=by
    rcases Nat.lt_or_ge j Cs.length with h | h
    ·exact h
    ·rw [List.getElem?_eq_none (by simpa using h)] at hx; cases hx
   obtain ⟨ty',e1,h⟩:=jq j hj
   rw [e1] at hty
   cases hty
   rw [List.getElem?_map,List.getElem?_range hj] at hx
   simp only [Option.map_some,Option.some.injEq] at hx
   subst hx
   exact h.qB
 ·rename_i hu
  cases ha
  obtain ⟨Cs,hC⟩:=trod_good 1 true t [.bool] (by simp [fe,hu]) _ _ _ hf
  obtain ⟨b,hb,_⟩:=DataW.trod_bool hu hf
  exact uZ hC (v:=v) (by
   unfold Value.okWide at hv; rw [hu] at hv
   unfold Cell.okWide at hv; rw [hu] at hv; unfold Cell.ok at hv; rw [hu] at hv
   cases v <;> first | rfl | (simp at hv; done))
 ·rename_i k hu
  cases ha
  obtain ⟨m,hb,_⟩:=DataW.trod_int hu hf
  obtain ⟨Cs,hC⟩:=trod_good 1 true t [.int k] (by simp [fe,hu]) _ _ _ hf
  exact uZ hC (v:=v) (by
   unfold Value.okWide at hv; rw [hu] at hv
   unfold Cell.okWide at hv; rw [hu] at hv; unfold Cell.ok at hv; rw [hu] at hv
   cases v <;> first | rfl | (simp at hv; done))
 ·rename_i hu
  cases ha
  obtain ⟨m,hb,_⟩:=DataW.trod_string hu hf
  obtain ⟨Cs,hC⟩:=trod_good 1 true t [.str] (by simp [fe,hu]) _ _ _ hf
  exact uZ hC (v:=v) (by
   unfold Value.okWide at hv; rw [hu] at hv
   unfold Cell.okWide at hv; rw [hu] at hv; unfold Cell.ok at hv; rw [hu] at hv
   cases v <;> first | rfl | (simp at hv; done))
 ·rename_i e hu
  simp only [Option.bind_eq_some_iff] at ha
  obtain ⟨ts,ht,ha⟩:=ha
  split at ha
  ·rename_i ty
   cases ha
   have hc : Cell.okWide P w r base t v:=by unfold Value.okWide at hv; rw [hu] at hv; exact hv
   have hv1 : v.cells.toList = [v]:=by
    unfold Cell.okWide at hc; rw [hu] at hc; unfold Cell.ok at hc; rw [hu] at hc
    cases v <;> first | rfl | (simp at hc; done)
   obtain ⟨Cs,hC⟩:=trod_good _ _ _ _ ht _ _ _ hf
   exact uZ hC hv1
  ·cases ha
 ·cases ha
def nT : List iC→List X→Prop
 | [],[]=>True
 | a :: as,x :: xs=>kL a x∧nT as xs
 | _,_=>False
theorem Cw {r : Reach} {base : Nat} : ∀ {ts : List TypeId} {as : List iC} {vs : List Value} {ds : List (DataW H)} {p : List MemPlace},ts.map (mh P) = as.map some →
  (∀ (j : Nat) t v,ts[j]? = some t→vs[j]? = some v→Value.okWide P w r base t v)→DataW.TrodAll enc P w 0 sp held ts vs ds p →
  ∃ cs : List C,cs.map C.val = vs∧(∀ c∈cs,c.ok w (Zf (fun b _=>b < w.heap.size) fun _ _=>False)∧c.bare∧∀ b k,¬ c.fp b k)∧nT as (cs.map C.er)
 | [],[],[],[],_,_,_,_=>⟨[],rfl,fun _ h=>(by cases h),trivial⟩
 | t :: ts,a :: as,v :: vs,d :: ds,_,ha,hv,⟨p,q,h1,h2,_⟩=>by
  simp only [List.map_cons,List.cons.injEq] at ha
  obtain ⟨c,hc⟩:=Ia ha.1 (hv 0 t v rfl rfl) h1
  obtain ⟨cs,e1,e2,e3⟩:=Cw ha.2 (fun j t' v' ht cX=>hv (j + 1) t' v' (by simpa using ht) (by simpa using cX)) h2
  refine ⟨c :: cs,by simp [hc.val,e1],fun x hx=>?_,⟨hc.qB,e3⟩⟩
  rcases List.mem_cons.1 hx with rfl | hx
  ·exact ⟨hc.ok,hc.bare,hc.fp⟩
  ·exact e2 x hx
theorem Us {r : Reach} {base : Nat} {ts : List TypeId} {as : List iC} {vs : List Value} {ds : List (DataW H)} {p : List MemPlace} {f : FuncId} (ha : ts.map (mh P) = as.map some)
  (hv : ∀ (j : Nat) t v,ts[j]? = some t→vs[j]? = some v→Value.okWide P w r base t v) (hd : DataW.TrodAll enc P w 0 sp held ts vs ds p)
  (Nn : ∀ xs,nT as xs→@AC ⟨w⟩ P f xs fun r _=>r = .bool true) : Calls P f vs.toArray w fun e w'=>e = .returned (.bool true)∧Below w.heap.size w w':=by
 obtain ⟨cs,rfl,hcs,hc⟩:=Cw ha hv hd
 refine (Nn _ hc w (fun b _=>b < w.heap.size) (fun _ _=>False) cs rfl ⟨fun x hx=>(hcs x hx).1,fun x hx=>(hcs x hx).2.1,fun x hx b k hf=>((hcs x hx).2.2 b k hf).elim,fun b k h=>h.elim id False.elim,?_⟩ fun b hb=>⟨rfl,fun k=>.inl hb⟩).mono fun e w' ⟨r,ps,aA,hD,hr⟩=>?_
 ·refine List.pairwise_iff_getElem.2 fun i j hi hj _ b k hf=>((hcs _ (List.getElem_mem hi)).2.2 b k hf).elim
 ·letI : Bs:=⟨w⟩
  have hr':=lf hr
  subst hr'
  exact ⟨hD.ends,(hD.ext.mono (S':=fun _ _=>False) fun b k ⟨x,hx,hf⟩ _=>(hcs x hx).2.2 b k hf).below⟩
theorem H9 {t : TypeId} {a : iC} (h : mh P t = some a) : ∃ n deep ts,fe P n deep t = some ts:=by
 unfold mh at h
 split at h
 ·simp only [Option.map_eq_some_iff] at h
  obtain ⟨ts,ht,_⟩:=h
  exact ⟨_,_,ts,ht⟩
 ·rename_i hu; exact ⟨1,true,[.bool],by simp [fe,hu]⟩
 ·rename_i k hu; exact ⟨1,true,[.int k],by simp [fe,hu]⟩
 ·rename_i hu; exact ⟨1,true,[.str],by simp [fe,hu]⟩
 ·simp only [Option.bind_eq_some_iff] at h
  obtain ⟨ts,ht,_⟩:=h
  exact ⟨_,_,ts,ht⟩
 ·cases h
theorem TI {w' : World} (hb : Below w.heap.size w w') : ∀ {ts : List TypeId} {as : List iC} {vs : List Value} {ds : List (DataW H)} {p : List MemPlace},ts.map (mh P) = as.map some →
  DataW.TrodAll enc P w 0 (fun _=>true) held ts vs ds p→DataW.TrodAll enc P w' 0 (fun b=>decide (b < w.heap.size)) held ts vs ds p
 | [],[],[],[],_,_,h=>h
 | t :: ts,a :: as,v :: vs,d :: ds,_,ha,⟨p,q,⟨fuel,h1⟩,h2,e⟩=>by
  simp only [List.map_cons,List.cons.injEq] at ha
  obtain ⟨n,deep,tt,ht⟩:=H9 ha.1
  have h3:=B8 n deep t tt ht _ _ _ h1
  exact ⟨p,q,⟨fuel,DataW.trod_carry _ _ _ _ h3 fun m hm=>hb.same (DataW.trod_lt _ _ _ _ h3 m hm)⟩,TI hb ha.2 h2,e⟩
end
end M
namespace M
open Go
def cu (ts : List Ty) (r : List X) : Prop:=r.length = ts.length∧∀ (j : Nat) ty x,ts[j]? = some ty→r[j]? = some x→eM ty x
theorem cu.nil {r : List X} (h : cu [] r) : r = []:=List.length_eq_zero_iff.1 h.1
theorem cu.cons {ty : Ty} {ts : List Ty} {r : List X} (h : cu (ty :: ts) r) : ∃ x r',r = x :: r'∧eM ty x∧cu ts r':=by
 obtain ⟨h1,h2⟩:=h
 cases r with
 | nil=>cases h1
 | cons x r=>exact ⟨x,r,rfl,h2 0 ty x rfl rfl,by simpa using h1,fun j ty x ht hx=>h2 (j + 1) ty x (by simpa using ht) (by simpa using hx)⟩
theorem gU {x : X} (h : eM .str x) : ∃ s : ah,x = .str ⟨s.toArray⟩∧s.length≤9223372036854775807:=by
 cases h with
 | str h=>rename_i s; exact ⟨s.data.toList,by simp,by rw [Array.length_toList]; exact h⟩
theorem Kd {x : X} (h : eM .bool x) : ∃ b,x = .bool b:=by cases h; exact ⟨_,rfl⟩
theorem Ig {n : Int} (h : (Lit.int .i64 n).wf = true) : -9223372036854775808≤n∧n≤9223372036854775807:=by
 have h' : (decide (IntKind.i64.min≤n) && decide (n≤IntKind.i64.max)) = true:=h
 rw [Bool.and_eq_true,decide_eq_true_eq,decide_eq_true_eq] at h'
 exact h'
theorem eO {x : X} (h : eM (.int .i64) x) : ∃ n : Int,x = .int .i64 n∧-9223372036854775808≤n∧n≤9223372036854775807:=by
 cases h with
 | int h =>
  rename_i n
  refine ⟨n,rfl,?_⟩
  exact Ig h
theorem EV {α : Type} {e : α→List X} {ok : α→Prop} : ∀ {xs : List (List X)},(∀ r∈xs,∃ a,r = e a∧ok a)→∃ l : List α,xs = l.map e∧∀ a∈l,ok a
 | [],_=>⟨[],rfl,fun _ h=>by cases h⟩
 | r :: xs,h=>by
  obtain ⟨a,e1,e2⟩:=h r (List.mem_cons_self ..)
  obtain ⟨l,e3,e4⟩:=EV (fun r hr=>h r (List.mem_cons_of_mem _ hr))
  refine ⟨a :: l,by simp [e1,e3],fun b hb=>?_⟩
  rcases List.mem_cons.1 hb with rfl | hb
  ·exact e2
  ·exact e4 b hb
theorem gT {α : Type} (e : α→List X) (ok : α→Prop) {ts : List Ty} {x : X} (h : eM (.row ts) x) (hr : ∀ r,cu ts r→∃ a,r = e a∧ok a) : ∃ l : List α,x = .row .sl ts.length (l.map e)∧l.length≤9223372036854775807∧∀ a∈l,ok a:=by
 cases h with
 | row h1 h2 h3 =>
  rename_i xs
  obtain ⟨l,rfl,hl⟩:=EV (e:=e) (ok:=ok) (xs:=xs) fun r hr'=>hr r ⟨h2 r hr',h3 r hr'⟩
  rw [List.length_map] at h1
  exact ⟨l,rfl,h1,hl⟩
theorem J3 {tys : List Ty} {x : X} (h : kL (.agg tys) x) : ∃ l,x = .agg l∧cu tys l:=by
 cases h with
 | agg h1 h2=>exact ⟨_,rfl,h1,h2⟩
theorem UZ {a : iC} {as : List iC} {xs : List X} (h : nT (a :: as) xs) : ∃ x xs',xs = x :: xs'∧kL a x∧nT as xs':=by
 match xs,h with
 | x :: xs',⟨h1,h2⟩=>exact ⟨x,xs',rfl,h1,h2⟩
theorem U0 {xs : List X} (h : nT [] xs) : xs = []:=by
 match xs,h with
 | [],_=>rfl
structure TY (d : eo) : Prop where
 hb : d.cells.length≤9223372036854775807
 hs : ∀ s∈d.cells,s.length≤9223372036854775807
 hb' : d.pending.length≤9223372036854775807
 hs' : ∀ s∈d.pending,s.text.length≤9223372036854775807
 hi : ∀ s∈d.pending,-9223372036854775808≤s.at_∧s.at_≤9223372036854775807
end M
namespace M
open Go
end M
namespace M
open Go
theorem TJ (m : Nat) (h : m < 256) : l7 [[.int .u8 (m : Int)]] = some [UInt8.ofNat m]:=by
 have:=Gb [UInt8.ofNat m]
 have e : ((UInt8.ofNat m).toNat : Int) = m:=by
  rw [UInt8.toNat_ofNat']
  omega
 simp only [List.map_cons,List.map_nil,e] at this
 exact this
theorem Gm {n : Int} (h1 : 0≤n) (h2 : n < 256) : IntKind.u8.wrap n = n:=by
 simp only [IntKind.wrap,IntKind.signed,IntKind.bits,Bool.false_and,Bool.false_eq_true,if_false]
 omega
def cK (n : Nat) : ah:=Lib.decDigits n
theorem OX : ∀ (n : Nat) (out : ah),n≠0→nu n out = cK n ++ out:=by
 intro n
 induction n using Nat.strongRecOn with
 | ind n ih =>
  intro out h
  unfold nu cK
  rw [dif_neg h,Lib.decDigits]
  by_cases h1 : n < 10
  ·have e : n / 10 = 0:=by omega
   have e2 : n % 10 = n:=by omega
   rw [dif_pos h1,e,e2]
   unfold nu
   rw [dif_pos rfl]
   rfl
  ·rw [dif_neg h1,ih (n / 10) (by omega) _ (by omega)]
   unfold cK
   rw [List.append_assoc]
   rfl
theorem Kv : cK 0 = [48]:=by unfold cK; rw [Lib.decDigits]; rfl
theorem Kt (k : Nat) : ∀ (n : Nat),n < 10 ^ (k + 1)→(cK n).length≤k + 1:=by
 induction k with
 | zero =>
  intro n h
  unfold cK
  rw [Lib.decDigits,dif_pos (by simpa using h)]
  simp
 | succ k ih =>
  intro n h
  unfold cK
  rw [Lib.decDigits]
  by_cases h1 : n < 10
  ·rw [dif_pos h1]; simp
  ·rw [dif_neg h1,List.length_append]
   have:=ih (n / 10) (by rw [Nat.pow_succ] at h; omega)
   unfold cK at this
   simp only [List.length_cons,List.length_nil]
   omega
theorem EJ (n : Nat) : Lib.itoa (n : Int) = cK n:=by
 unfold Lib.itoa cK
 rw [if_neg (by omega)]
 rfl
end M
namespace M
open Go
def wS (s : ah) : Nat:=s.length
def wO {α : Type} (_ : α) : Nat:=0
def wL {α : Type} (w : α→Nat) (l : List α) : Nat:=l.length + (l.map w).sum
theorem dx {α : Type} {w : α→Nat} : ∀ {l : List α} {a : α},a∈l→w a≤wL w l
 | b :: l,a,h=>by
  rcases List.mem_cons.1 h with rfl | h
  ·simp [wL]; omega
  ·have:=dx (w:=w) h
   simp [wL] at this ⊢; omega
theorem bk {α : Type} {w : α→Nat} (l : List α) : l.length≤wL w l:=by unfold wL; omega
def av (n : Int) (w : Nat) : Int:=if (w : Int)≤n then n - w else -1
theorem aX (n : Int) (w : Nat) : ((w : Int)≤n∧av n w = n - w)∨(n < (w : Int)∧av n w = -1):=by
 unfold av
 split
 ·exact .inl ⟨by assumption,rfl⟩
 ·exact .inr ⟨by omega,rfl⟩
theorem l5 (w : Nat) (n : Int) : av n w≤n∨av n w < 0:=by have:=aX n w; omega
theorem kI {α : Type} (w : α→Nat) : ∀ (l : List α) (n : Int),0≤n→cR (fun b n=>av n (w b)) l n = av n (l.map w).sum
 | [],n,h=>by simp [cR,av,h]
 | b :: l,n,h=>by
  simp only [cR,List.map_cons,List.sum_cons]
  rcases aX n (w b) with ⟨h1,h2⟩ | ⟨h1,h2⟩
  ·rw [if_neg (by omega),kI w l _ (by omega),h2]
   rcases aX (n - w b) (l.map w).sum with ⟨h3,h4⟩ | ⟨h3,h4⟩ <;> rcases aX n (w b + (l.map w).sum) with ⟨h5,h6⟩ | ⟨h5,h6⟩ <;> omega
  ·rw [if_pos (by omega)]
   rcases aX n (w b + (l.map w).sum) with ⟨h5,h6⟩ | ⟨h5,h6⟩ <;> omega
def bI (n : Int) : Prop:=-9223372036854775808≤n∧n≤9223372036854775807
def bS (s : ah) : Prop:=s.length≤9223372036854775807
def bB (_ : Bool) : Prop:=True
def bL {α : Type} (b : α→Prop) (l : List α) : Prop:=l.length≤9223372036854775807∧∀ a∈l,b a
@[simp] def eI (n : Int) : List X:=[.int .i64 n]
@[simp] theorem Wh (m : Md) (l : List Int) : X.bn m (l.map eI) = l.map eI:=by induction l <;> simp_all [X.bn,X.cI,X.md]
@[simp] theorem UC (l : List Int) : X.clean.aR (l.map eI) = true:=by induction l <;> simp_all [X.clean.aR,X.clean.bG,X.clean]
structure aL where
 name : ah
 value : ah
 deriving DecidableEq
@[simp] def aI (a : aL) : List X:=[.str ⟨(a.name).toArray⟩,.str ⟨(a.value).toArray⟩]
@[simp] theorem Wg (m : Md) (l : List aL) : X.bn m (l.map aI) = l.map aI:=by induction l <;> simp_all [X.bn,X.cI,X.md]
@[simp] theorem UB (l : List aL) : X.clean.aR (l.map aI) = true:=by induction l <;> simp_all [X.clean.aR,X.clean.bG,X.clean]
def aJ (a : aL) : Nat:=a.name.length + a.value.length
structure kV (x : aL) : Prop where
 OA : bS x.name
 OL : bS x.value
theorem Kj (a b : aL) : decide (a = b) = (decide (a.name = b.name) && decide (a.value = b.value)):=by
 cases a; cases b; simp [Bool.and_assoc]
structure dm where
 status : Int
 fields : List aL
 body : ah
 deriving DecidableEq
@[simp] def gV (m : Md) (a : dm) : List X:=[.int .i64 a.status,.row m 2 ((a.fields).map aI),.str ⟨(a.body).toArray⟩]
@[simp] theorem Wm (m m' : Md) (l : List dm) : X.bn m (l.map (gV m')) = l.map (gV m):=by induction l <;> simp_all [X.bn,X.cI,X.md]
@[simp] theorem UH (l : List dm) : X.clean.aR (l.map (gV .own)) = true:=by induction l <;> simp_all [X.clean.aR,X.clean.bG,X.clean]
@[simp] theorem UU (l : List dm) : X.clean.aR (l.map (gV .sl)) = true:=by induction l <;> simp_all [X.clean.aR,X.clean.bG,X.clean]
def bT (a : dm) : Nat:=wL aJ a.fields + a.body.length
structure n5 (x : dm) : Prop where
 V1 : bI x.status
 Aw : (bL kV) x.fields
 Av : bS x.body
theorem Ko (a b : dm) : decide (a = b) = (decide (a.status = b.status) && decide (a.fields = b.fields) && decide (a.body = b.body)):=by
 cases a; cases b; simp [Bool.and_assoc]
structure Rq where
 method : Int
 path : ah
 fields : List aL
 body : ah
 deriving DecidableEq
@[simp] def eP (m : Md) (a : Rq) : List X:=[.int .i64 a.method,.str ⟨(a.path).toArray⟩,.row m 2 ((a.fields).map aI),.str ⟨(a.body).toArray⟩]
@[simp] theorem Wl (m m' : Md) (l : List Rq) : X.bn m (l.map (eP m')) = l.map (eP m):=by induction l <;> simp_all [X.bn,X.cI,X.md]
@[simp] theorem UG (l : List Rq) : X.clean.aR (l.map (eP .own)) = true:=by induction l <;> simp_all [X.clean.aR,X.clean.bG,X.clean]
@[simp] theorem UT (l : List Rq) : X.clean.aR (l.map (eP .sl)) = true:=by induction l <;> simp_all [X.clean.aR,X.clean.bG,X.clean]
def bD (a : Rq) : Nat:=a.path.length + wL aJ a.fields + a.body.length
structure n4 (x : Rq) : Prop where
 VY : bI x.method
 Ay : bS x.path
 Aw : (bL kV) x.fields
 Av : bS x.body
theorem Kn (a b : Rq) : decide (a = b) = (decide (a.method = b.method) && decide (a.path = b.path) && decide (a.fields = b.fields) && decide (a.body = b.body)):=by
 cases a; cases b; simp [Bool.and_assoc]
structure Ob where
 path : ah
 names : List ah
 values : List ah
 resp : dm
 t : Int
 deriving DecidableEq
@[simp] def cL (m : Md) (a : Ob) : List X:=[.str ⟨(a.path).toArray⟩,.row m 1 ((a.names).map eS),.row m 1 ((a.values).map eS),.int .i64 a.resp.status,.row m 2 ((a.resp.fields).map aI),.str ⟨(a.resp.body).toArray⟩,.int .i64 a.t]
@[simp] theorem Wj (m m' : Md) (l : List Ob) : X.bn m (l.map (cL m')) = l.map (cL m):=by induction l <;> simp_all [X.bn,X.cI,X.md]
@[simp] theorem UE (l : List Ob) : X.clean.aR (l.map (cL .own)) = true:=by induction l <;> simp_all [X.clean.aR,X.clean.bG,X.clean]
@[simp] theorem UR (l : List Ob) : X.clean.aR (l.map (cL .sl)) = true:=by induction l <;> simp_all [X.clean.aR,X.clean.bG,X.clean]
def bA (a : Ob) : Nat:=a.path.length + wL wS a.names + wL wS a.values + bT a.resp
structure qv (x : Ob) : Prop where
 Ay : bS x.path
 OB : (bL bS) x.names
 OM : (bL bS) x.values
 oO : n5 x.resp
 Az : bI x.t
theorem Kl (a b : Ob) : decide (a = b) = (decide (a.path = b.path) && decide (a.names = b.names) && decide (a.values = b.values) && decide (a.resp = b.resp) && decide (a.t = b.t)):=by
 cases a; cases b; simp [Bool.and_assoc]
structure Kp where
 obj : Ob
 at_ : Int
 seq : Int
 deriving DecidableEq
@[simp] def aU (m : Md) (a : Kp) : List X:=[.str ⟨(a.obj.path).toArray⟩,.row m 1 ((a.obj.names).map eS),.row m 1 ((a.obj.values).map eS),.int .i64 a.obj.resp.status,.row m 2 ((a.obj.resp.fields).map aI),.str ⟨(a.obj.resp.body).toArray⟩,.int .i64 a.obj.t,.int .i64 a.at_,.int .i64 a.seq]
@[simp] theorem Wi (m m' : Md) (l : List Kp) : X.bn m (l.map (aU m')) = l.map (aU m):=by induction l <;> simp_all [X.bn,X.cI,X.md]
@[simp] theorem UD (l : List Kp) : X.clean.aR (l.map (aU .own)) = true:=by induction l <;> simp_all [X.clean.aR,X.clean.bG,X.clean]
@[simp] theorem UQ (l : List Kp) : X.clean.aR (l.map (aU .sl)) = true:=by induction l <;> simp_all [X.clean.aR,X.clean.bG,X.clean]
def bu (a : Kp) : Nat:=bA a.obj
structure nY (x : Kp) : Prop where
 Ax : qv x.obj
 Ou : bI x.at_
 OI : bI x.seq
theorem Kk (a b : Kp) : decide (a = b) = (decide (a.obj = b.obj) && decide (a.at_ = b.at_) && decide (a.seq = b.seq)):=by
 cases a; cases b; simp [Bool.and_assoc]
def b8 (a : Wr) : Nat:=a.text.length
structure n7 (x : Wr) : Prop where
 Ou : bI x.at_
 OK : bS x.text
theorem Ks (a b : Wr) : decide (a = b) = (decide (a.at_ = b.at_) && decide (a.text = b.text)):=by
 cases a; cases b; simp [Bool.and_assoc]
def cS (a : eo) : Nat:=wL wS a.cells + wL b8 a.pending
structure yg (x : eo) : Prop where
 Ow : (bL bS) x.cells
 OE : (bL n7) x.pending
theorem Kh (a b : eo) : decide (a = b) = (decide (a.cells = b.cells) && decide (a.pending = b.pending)):=by
 cases a; cases b; simp [Bool.and_assoc]
structure Bn where
 kind : Int
 a : ah
 b : ah
 t : Int
 deriving DecidableEq
@[simp] def br (a : Bn) : List X:=[.int .i64 a.kind,.str ⟨(a.a).toArray⟩,.str ⟨(a.b).toArray⟩,.int .i64 a.t]
@[simp] theorem Wc (m : Md) (l : List Bn) : X.bn m (l.map br) = l.map br:=by induction l <;> simp_all [X.bn,X.cI,X.md]
@[simp] theorem Ux (l : List Bn) : X.clean.aR (l.map br) = true:=by induction l <;> simp_all [X.clean.aR,X.clean.bG,X.clean]
def aQ (a : Bn) : Nat:=a.a.length + a.b.length
structure mo (x : Bn) : Prop where
 EN : bI x.kind
 EL : bS x.a
 Ov : bS x.b
 Az : bI x.t
theorem Kf (a b : Bn) : decide (a = b) = (decide (a.kind = b.kind) && decide (a.a = b.a) && decide (a.b = b.b) && decide (a.t = b.t)):=by
 cases a; cases b; simp [Bool.and_assoc]
structure Sh where
 bC : eo
 aB : List Kp
 aC : List Bn
 next : Int
 seq : Int
 deriving DecidableEq
@[simp] def b9 (m : Md) (a : Sh) : List X:=[.row m 1 ((a.bC.cells).map eS),.row m 2 ((a.bC.pending).map eW),.row m 9 ((a.aB).map (aU m)),.row m 4 ((a.aC).map br),.int .i64 a.next,.int .i64 a.seq]
@[simp] theorem Wp (m m' : Md) (l : List Sh) : X.bn m (l.map (b9 m')) = l.map (b9 m):=by induction l <;> simp_all [X.bn,X.cI,X.md]
@[simp] theorem UK (l : List Sh) : X.clean.aR (l.map (b9 .own)) = true:=by induction l <;> simp_all [X.clean.aR,X.clean.bG,X.clean]
@[simp] theorem UX (l : List Sh) : X.clean.aR (l.map (b9 .sl)) = true:=by induction l <;> simp_all [X.clean.aR,X.clean.bG,X.clean]
def cg (a : Sh) : Nat:=cS a.bC + wL bu a.aB + wL aQ a.aC
structure yh (x : Sh) : Prop where
 Oy : yg x.bC
 OC : (bL nY) x.aB
 EM : (bL mo) x.aC
 VZ : bI x.next
 OI : bI x.seq
theorem Kr (a b : Sh) : decide (a = b) = (decide (a.bC = b.bC) && decide (a.aB = b.aB) && decide (a.aC = b.aC) && decide (a.next = b.next) && decide (a.seq = b.seq)):=by
 cases a; cases b; simp [Bool.and_assoc]
structure Fl where
 q : Rq
 who : List Int
 old : Ob
 jo : Bool
 deriving DecidableEq
@[simp] def bg (m : Md) (a : Fl) : List X:=[.int .i64 a.q.method,.str ⟨(a.q.path).toArray⟩,.row m 2 ((a.q.fields).map aI),.str ⟨(a.q.body).toArray⟩,.row m 1 ((a.who).map eI),.str ⟨(a.old.path).toArray⟩,.row m 1 ((a.old.names).map eS),.row m 1 ((a.old.values).map eS),.int .i64 a.old.resp.status,.row m 2 ((a.old.resp.fields).map aI),.str ⟨(a.old.resp.body).toArray⟩,.int .i64 a.old.t,.bool a.jo]
@[simp] theorem Wf (m m' : Md) (l : List Fl) : X.bn m (l.map (bg m')) = l.map (bg m):=by induction l <;> simp_all [X.bn,X.cI,X.md]
@[simp] theorem UA (l : List Fl) : X.clean.aR (l.map (bg .own)) = true:=by induction l <;> simp_all [X.clean.aR,X.clean.bG,X.clean]
@[simp] theorem UP (l : List Fl) : X.clean.aR (l.map (bg .sl)) = true:=by induction l <;> simp_all [X.clean.aR,X.clean.bG,X.clean]
def bz (a : Fl) : Nat:=bD a.q + wL wO a.who + bA a.old
structure nX (x : Fl) : Prop where
 oN : n4 x.q
 ON : (bL bI) x.who
 OD : qv x.old
 VW : bB x.jo
theorem Ki (a b : Fl) : decide (a = b) = (decide (a.q = b.q) && decide (a.who = b.who) && decide (a.old = b.old) && decide (a.jo = b.jo)):=by
 cases a; cases b; simp [Bool.and_assoc]
structure Se where
 q : Rq
 resp : dm
 t : Int
 deriving DecidableEq
@[simp] def cx (m : Md) (a : Se) : List X:=[.int .i64 a.q.method,.str ⟨(a.q.path).toArray⟩,.row m 2 ((a.q.fields).map aI),.str ⟨(a.q.body).toArray⟩,.int .i64 a.resp.status,.row m 2 ((a.resp.fields).map aI),.str ⟨(a.resp.body).toArray⟩,.int .i64 a.t]
@[simp] theorem Wo (m m' : Md) (l : List Se) : X.bn m (l.map (cx m')) = l.map (cx m):=by induction l <;> simp_all [X.bn,X.cI,X.md]
@[simp] theorem UJ (l : List Se) : X.clean.aR (l.map (cx .own)) = true:=by induction l <;> simp_all [X.clean.aR,X.clean.bG,X.clean]
@[simp] theorem UW (l : List Se) : X.clean.aR (l.map (cx .sl)) = true:=by induction l <;> simp_all [X.clean.aR,X.clean.bG,X.clean]
def cq (a : Se) : Nat:=bD a.q + bT a.resp
structure n6 (x : Se) : Prop where
 oN : n4 x.q
 oO : n5 x.resp
 Az : bI x.t
theorem Kq (a b : Se) : decide (a = b) = (decide (a.q = b.q) && decide (a.resp = b.resp) && decide (a.t = b.t)):=by
 cases a; cases b; simp [Bool.and_assoc]
structure Rp where
 client : Int
 q : Rq
 resp : dm
 kind : Int
 t : Int
 obj : Ob
 aC : Int
 deriving DecidableEq
@[simp] def cj (m : Md) (a : Rp) : List X:=[.int .i64 a.client,.int .i64 a.q.method,.str ⟨(a.q.path).toArray⟩,.row m 2 ((a.q.fields).map aI),.str ⟨(a.q.body).toArray⟩,.int .i64 a.resp.status,.row m 2 ((a.resp.fields).map aI),.str ⟨(a.resp.body).toArray⟩,.int .i64 a.kind,.int .i64 a.t,.str ⟨(a.obj.path).toArray⟩,.row m 1 ((a.obj.names).map eS),.row m 1 ((a.obj.values).map eS),.int .i64 a.obj.resp.status,.row m 2 ((a.obj.resp.fields).map aI),.str ⟨(a.obj.resp.body).toArray⟩,.int .i64 a.obj.t,.int .i64 a.aC]
@[simp] theorem Wk (m m' : Md) (l : List Rp) : X.bn m (l.map (cj m')) = l.map (cj m):=by induction l <;> simp_all [X.bn,X.cI,X.md]
@[simp] theorem UF (l : List Rp) : X.clean.aR (l.map (cj .own)) = true:=by induction l <;> simp_all [X.clean.aR,X.clean.bG,X.clean]
@[simp] theorem US (l : List Rp) : X.clean.aR (l.map (cj .sl)) = true:=by induction l <;> simp_all [X.clean.aR,X.clean.bG,X.clean]
def bR (a : Rp) : Nat:=bD a.q + bT a.resp + bA a.obj
structure nZ (x : Rp) : Prop where
 Ox : bI x.client
 oN : n4 x.q
 oO : n5 x.resp
 EN : bI x.kind
 Az : bI x.t
 Ax : qv x.obj
 EM : bI x.aC
theorem Km (a b : Rp) : decide (a = b) = (decide (a.client = b.client) && decide (a.q = b.q) && decide (a.resp = b.resp) && decide (a.kind = b.kind) && decide (a.t = b.t) && decide (a.obj = b.obj) && decide (a.aC = b.aC)):=by
 cases a; cases b; simp [Bool.and_assoc]
structure Ca where
 aE : Sh
 aW : List Fl
 now : Int
 seen : List Se
 sent : List Rp
 deriving DecidableEq
@[simp] def cr (m : Md) (a : Ca) : List X:=[.row m 1 ((a.aE.bC.cells).map eS),.row m 2 ((a.aE.bC.pending).map eW),.row m 9 ((a.aE.aB).map (aU m)),.row m 4 ((a.aE.aC).map br),.int .i64 a.aE.next,.int .i64 a.aE.seq,.row m 13 ((a.aW).map (bg m)),.int .i64 a.now,.row m 8 ((a.seen).map (cx m)),.row m 18 ((a.sent).map (cj m))]
@[simp] theorem Wd (m m' : Md) (l : List Ca) : X.bn m (l.map (cr m')) = l.map (cr m):=by induction l <;> simp_all [X.bn,X.cI,X.md]
@[simp] theorem Uy (l : List Ca) : X.clean.aR (l.map (cr .own)) = true:=by induction l <;> simp_all [X.clean.aR,X.clean.bG,X.clean]
@[simp] theorem UN (l : List Ca) : X.clean.aR (l.map (cr .sl)) = true:=by induction l <;> simp_all [X.clean.aR,X.clean.bG,X.clean]
def bZ (a : Ca) : Nat:=cg a.aE + wL bz a.aW + wL cq a.seen + wL bR a.sent
structure uC (x : Ca) : Prop where
 OJ : yh x.aE
 Oz : (bL nX) x.aW
 V0 : bI x.now
 OG : (bL n6) x.seen
 OH : (bL nZ) x.sent
theorem Kg (a b : Ca) : decide (a = b) = (decide (a.aE = b.aE) && decide (a.aW = b.aW) && decide (a.now = b.now) && decide (a.seen = b.seen) && decide (a.sent = b.sent)):=by
 cases a; cases b; simp [Bool.and_assoc]
structure De where
 kind : Int
 client : Int
 q : Rq
 a : Int
 resp : dm
 kW : Bn
 keep : List Bool
 deriving DecidableEq
@[simp] def uN (m : Md) (a : De) : List X:=[.int .i64 a.kind,.int .i64 a.client,.int .i64 a.q.method,.str ⟨(a.q.path).toArray⟩,.row m 2 ((a.q.fields).map aI),.str ⟨(a.q.body).toArray⟩,.int .i64 a.a,.int .i64 a.resp.status,.row m 2 ((a.resp.fields).map aI),.str ⟨(a.resp.body).toArray⟩,.int .i64 a.kW.kind,.str ⟨(a.kW.a).toArray⟩,.str ⟨(a.kW.b).toArray⟩,.int .i64 a.kW.t,.row m 1 ((a.keep).map eB)]
@[simp] theorem We (m m' : Md) (l : List De) : X.bn m (l.map (uN m')) = l.map (uN m):=by induction l <;> simp_all [X.bn,X.cI,X.md]
@[simp] theorem Uz (l : List De) : X.clean.aR (l.map (uN .own)) = true:=by induction l <;> simp_all [X.clean.aR,X.clean.bG,X.clean]
@[simp] theorem UO (l : List De) : X.clean.aR (l.map (uN .sl)) = true:=by induction l <;> simp_all [X.clean.aR,X.clean.bG,X.clean]
structure Ub (x : De) : Prop where
 EN : bI x.kind
 Ox : bI x.client
 oN : n4 x.q
 EL : bI x.a
 oO : n5 x.resp
 VV : mo x.kW
 VX : (bL bB) x.keep
theorem Dc {ts : List Ty} {l : List X} (h : cu ([.str,.str] ++ ts) l) : ∃ (a : aL) (l' : List X),l = aI a ++ l'∧kV a∧cu ts l':=by
 simp only [List.cons_append,List.nil_append] at h
 obtain ⟨y1,r1,rfl,c1,h1⟩:=h.cons
 obtain ⟨a1,rfl,b1⟩:=gU c1
 obtain ⟨y2,r2,rfl,c2,h2⟩:=h1.cons
 obtain ⟨a2,rfl,b2⟩:=gU c2
 exact ⟨⟨a1,a2⟩,r2,by simp,⟨b1,b2⟩,h2⟩
theorem zc {ts : List Ty} {l : List X} (h : cu ([.int .i64,.row [.str,.str],.str] ++ ts) l) : ∃ (a : dm) (l' : List X),l = gV .sl a ++ l'∧n5 a∧cu ts l':=by
 simp only [List.cons_append,List.nil_append] at h
 obtain ⟨y1,r1,rfl,c1,h1⟩:=h.cons
 obtain ⟨a1,rfl,b1⟩:=eO c1
 obtain ⟨y2,r2,rfl,c2,h2⟩:=h1.cons
 obtain ⟨a2,rfl,b2⟩:=gT aI kV c2 fun r hr=>by
  obtain ⟨a,l',rfl,h1,h2⟩:=Dc (ts:=[]) (by simpa using hr)
  obtain rfl:=h2.nil
  exact ⟨a,by simp,h1⟩
 obtain ⟨y3,r3,rfl,c3,h3⟩:=h2.cons
 obtain ⟨a3,rfl,b3⟩:=gU c3
 exact ⟨⟨a1,a2,a3⟩,r3,by simp,⟨b1,b2,b3⟩,h3⟩
theorem za {ts : List Ty} {l : List X} (h : cu ([.int .i64,.str,.row [.str,.str],.str] ++ ts) l) : ∃ (a : Rq) (l' : List X),l = eP .sl a ++ l'∧n4 a∧cu ts l':=by
 simp only [List.cons_append,List.nil_append] at h
 obtain ⟨y1,r1,rfl,c1,h1⟩:=h.cons
 obtain ⟨a1,rfl,b1⟩:=eO c1
 obtain ⟨y2,r2,rfl,c2,h2⟩:=h1.cons
 obtain ⟨a2,rfl,b2⟩:=gU c2
 obtain ⟨y3,r3,rfl,c3,h3⟩:=h2.cons
 obtain ⟨a3,rfl,b3⟩:=gT aI kV c3 fun r hr=>by
  obtain ⟨a,l',rfl,h1,h2⟩:=Dc (ts:=[]) (by simpa using hr)
  obtain rfl:=h2.nil
  exact ⟨a,by simp,h1⟩
 obtain ⟨y4,r4,rfl,c4,h4⟩:=h3.cons
 obtain ⟨a4,rfl,b4⟩:=gU c4
 exact ⟨⟨a1,a2,a3,a4⟩,r4,by simp,⟨b1,b2,b3,b4⟩,h4⟩
theorem y9 {ts : List Ty} {l : List X} (h : cu ([.str,.row [.str],.row [.str],.int .i64,.row [.str,.str],.str,.int .i64] ++ ts) l) : ∃ (a : Ob) (l' : List X),l = cL .sl a ++ l'∧qv a∧cu ts l':=by
 simp only [List.cons_append,List.nil_append] at h
 obtain ⟨y1,r1,rfl,c1,h1⟩:=h.cons
 obtain ⟨a1,rfl,b1⟩:=gU c1
 obtain ⟨y2,r2,rfl,c2,h2⟩:=h1.cons
 obtain ⟨a2,rfl,b2⟩:=gT eS bS c2 fun r hr=>by
  obtain ⟨x,r',rfl,h1,h2⟩:=hr.cons
  obtain rfl:=h2.nil
  obtain ⟨s,rfl,hs⟩:=gU h1
  exact ⟨s,rfl,hs⟩
 obtain ⟨y3,r3,rfl,c3,h3⟩:=h2.cons
 obtain ⟨a3,rfl,b3⟩:=gT eS bS c3 fun r hr=>by
  obtain ⟨x,r',rfl,h1,h2⟩:=hr.cons
  obtain rfl:=h2.nil
  obtain ⟨s,rfl,hs⟩:=gU h1
  exact ⟨s,rfl,hs⟩
 obtain ⟨a4,r4,rfl,b4,h4⟩:=zc (ts:=_) h3
 obtain ⟨y5,r5,rfl,c5,h5⟩:=h4.cons
 obtain ⟨a5,rfl,b5⟩:=eO c5
 exact ⟨⟨a1,a2,a3,a4,a5⟩,r5,by simp,⟨b1,b2,b3,b4,b5⟩,h5⟩
theorem J8 {ts : List Ty} {l : List X} (h : cu ([.str,.row [.str],.row [.str],.int .i64,.row [.str,.str],.str,.int .i64,.int .i64,.int .i64] ++ ts) l) : ∃ (a : Kp) (l' : List X),l = aU .sl a ++ l'∧nY a∧cu ts l':=by
 simp only [List.cons_append,List.nil_append] at h
 obtain ⟨a1,r1,rfl,b1,h1⟩:=y9 (ts:=_) h
 obtain ⟨y2,r2,rfl,c2,h2⟩:=h1.cons
 obtain ⟨a2,rfl,b2⟩:=eO c2
 obtain ⟨y3,r3,rfl,c3,h3⟩:=h2.cons
 obtain ⟨a3,rfl,b3⟩:=eO c3
 exact ⟨⟨a1,a2,a3⟩,r3,by simp,⟨b1,b2,b3⟩,h3⟩
theorem Kc {ts : List Ty} {l : List X} (h : cu ([.int .i64,.str] ++ ts) l) : ∃ (a : Wr) (l' : List X),l = eW a ++ l'∧n7 a∧cu ts l':=by
 simp only [List.cons_append,List.nil_append] at h
 obtain ⟨y1,r1,rfl,c1,h1⟩:=h.cons
 obtain ⟨a1,rfl,b1⟩:=eO c1
 obtain ⟨y2,r2,rfl,c2,h2⟩:=h1.cons
 obtain ⟨a2,rfl,b2⟩:=gU c2
 exact ⟨⟨a1,a2⟩,r2,by simp,⟨b1,b2⟩,h2⟩
theorem J6 {ts : List Ty} {l : List X} (h : cu ([.row [.str],.row [.int .i64,.str]] ++ ts) l) : ∃ (a : eo) (l' : List X),l = fU .sl a ++ l'∧yg a∧cu ts l':=by
 simp only [List.cons_append,List.nil_append] at h
 obtain ⟨y1,r1,rfl,c1,h1⟩:=h.cons
 obtain ⟨a1,rfl,b1⟩:=gT eS bS c1 fun r hr=>by
  obtain ⟨x,r',rfl,h1,h2⟩:=hr.cons
  obtain rfl:=h2.nil
  obtain ⟨s,rfl,hs⟩:=gU h1
  exact ⟨s,rfl,hs⟩
 obtain ⟨y2,r2,rfl,c2,h2⟩:=h1.cons
 obtain ⟨a2,rfl,b2⟩:=gT eW n7 c2 fun r hr=>by
  obtain ⟨a,l',rfl,h1,h2⟩:=Kc (ts:=[]) (by simpa using hr)
  obtain rfl:=h2.nil
  exact ⟨a,by simp,h1⟩
 exact ⟨⟨a1,a2⟩,r2,by simp,⟨b1,b2⟩,h2⟩
theorem J4 {ts : List Ty} {l : List X} (h : cu ([.int .i64,.str,.str,.int .i64] ++ ts) l) : ∃ (a : Bn) (l' : List X),l = br a ++ l'∧mo a∧cu ts l':=by
 simp only [List.cons_append,List.nil_append] at h
 obtain ⟨y1,r1,rfl,c1,h1⟩:=h.cons
 obtain ⟨a1,rfl,b1⟩:=eO c1
 obtain ⟨y2,r2,rfl,c2,h2⟩:=h1.cons
 obtain ⟨a2,rfl,b2⟩:=gU c2
 obtain ⟨y3,r3,rfl,c3,h3⟩:=h2.cons
 obtain ⟨a3,rfl,b3⟩:=gU c3
 obtain ⟨y4,r4,rfl,c4,h4⟩:=h3.cons
 obtain ⟨a4,rfl,b4⟩:=eO c4
 exact ⟨⟨a1,a2,a3,a4⟩,r4,by simp,⟨b1,b2,b3,b4⟩,h4⟩
theorem Kb {ts : List Ty} {l : List X} (h : cu ([.row [.str],.row [.int .i64,.str],.row [.str,.row [.str],.row [.str],.int .i64,.row [.str,.str],.str,.int .i64,.int .i64,.int .i64],.row [.int .i64,.str,.str,.int .i64],.int .i64,.int .i64] ++ ts) l) : ∃ (a : Sh) (l' : List X),l = b9 .sl a ++ l'∧yh a∧cu ts l':=by
 simp only [List.cons_append,List.nil_append] at h
 obtain ⟨a1,r1,rfl,b1,h1⟩:=J6 (ts:=_) h
 obtain ⟨y2,r2,rfl,c2,h2⟩:=h1.cons
 obtain ⟨a2,rfl,b2⟩:=gT (aU .sl) nY c2 fun r hr=>by
  obtain ⟨a,l',rfl,h1,h2⟩:=J8 (ts:=[]) (by simpa using hr)
  obtain rfl:=h2.nil
  exact ⟨a,by simp,h1⟩
 obtain ⟨y3,r3,rfl,c3,h3⟩:=h2.cons
 obtain ⟨a3,rfl,b3⟩:=gT br mo c3 fun r hr=>by
  obtain ⟨a,l',rfl,h1,h2⟩:=J4 (ts:=[]) (by simpa using hr)
  obtain rfl:=h2.nil
  exact ⟨a,by simp,h1⟩
 obtain ⟨y4,r4,rfl,c4,h4⟩:=h3.cons
 obtain ⟨a4,rfl,b4⟩:=eO c4
 obtain ⟨y5,r5,rfl,c5,h5⟩:=h4.cons
 obtain ⟨a5,rfl,b5⟩:=eO c5
 exact ⟨⟨a1,a2,a3,a4,a5⟩,r5,by simp,⟨b1,b2,b3,b4,b5⟩,h5⟩
theorem J7 {ts : List Ty} {l : List X} (h : cu ([.int .i64,.str,.row [.str,.str],.str,.row [.int .i64],.str,.row [.str],.row [.str],.int .i64,.row [.str,.str],.str,.int .i64,.bool] ++ ts) l) : ∃ (a : Fl) (l' : List X),l = bg .sl a ++ l'∧nX a∧cu ts l':=by
 simp only [List.cons_append,List.nil_append] at h
 obtain ⟨a1,r1,rfl,b1,h1⟩:=za (ts:=_) h
 obtain ⟨y2,r2,rfl,c2,h2⟩:=h1.cons
 obtain ⟨a2,rfl,b2⟩:=gT eI bI c2 fun r hr=>by
  obtain ⟨x,r',rfl,h1,h2⟩:=hr.cons
  obtain rfl:=h2.nil
  obtain ⟨s,rfl,hs⟩:=eO h1
  exact ⟨s,rfl,hs⟩
 obtain ⟨a3,r3,rfl,b3,h3⟩:=y9 (ts:=_) h2
 obtain ⟨y4,r4,rfl,c4,h4⟩:=h3.cons
 obtain ⟨a4,rfl⟩:=Kd c4
 exact ⟨⟨a1,a2,a3,a4⟩,r4,by simp,⟨b1,b2,b3,trivial⟩,h4⟩
theorem Ka {ts : List Ty} {l : List X} (h : cu ([.int .i64,.str,.row [.str,.str],.str,.int .i64,.row [.str,.str],.str,.int .i64] ++ ts) l) : ∃ (a : Se) (l' : List X),l = cx .sl a ++ l'∧n6 a∧cu ts l':=by
 simp only [List.cons_append,List.nil_append] at h
 obtain ⟨a1,r1,rfl,b1,h1⟩:=za (ts:=_) h
 obtain ⟨a2,r2,rfl,b2,h2⟩:=zc (ts:=_) h1
 obtain ⟨y3,r3,rfl,c3,h3⟩:=h2.cons
 obtain ⟨a3,rfl,b3⟩:=eO c3
 exact ⟨⟨a1,a2,a3⟩,r3,by simp,⟨b1,b2,b3⟩,h3⟩
theorem J9 {ts : List Ty} {l : List X} (h : cu ([.int .i64,.int .i64,.str,.row [.str,.str],.str,.int .i64,.row [.str,.str],.str,.int .i64,.int .i64,.str,.row [.str],.row [.str],.int .i64,.row [.str,.str],.str,.int .i64,.int .i64] ++ ts) l) : ∃ (a : Rp) (l' : List X),l = cj .sl a ++ l'∧nZ a∧cu ts l':=by
 simp only [List.cons_append,List.nil_append] at h
 obtain ⟨y1,r1,rfl,c1,h1⟩:=h.cons
 obtain ⟨a1,rfl,b1⟩:=eO c1
 obtain ⟨a2,r2,rfl,b2,h2⟩:=za (ts:=_) h1
 obtain ⟨a3,r3,rfl,b3,h3⟩:=zc (ts:=_) h2
 obtain ⟨y4,r4,rfl,c4,h4⟩:=h3.cons
 obtain ⟨a4,rfl,b4⟩:=eO c4
 obtain ⟨y5,r5,rfl,c5,h5⟩:=h4.cons
 obtain ⟨a5,rfl,b5⟩:=eO c5
 obtain ⟨a6,r6,rfl,b6,h6⟩:=y9 (ts:=_) h5
 obtain ⟨y7,r7,rfl,c7,h7⟩:=h6.cons
 obtain ⟨a7,rfl,b7⟩:=eO c7
 exact ⟨⟨a1,a2,a3,a4,a5,a6,a7⟩,r7,by simp,⟨b1,b2,b3,b4,b5,b6,b7⟩,h7⟩
def Q2 : List Ty:=[.row [.str],.row [.int .i64,.str],.row [.str,.row [.str],.row [.str],.int .i64,.row [.str,.str],.str,.int .i64,.int .i64,.int .i64],.row [.int .i64,.str,.str,.int .i64],.int .i64,.int .i64,.row [.int .i64,.str,.row [.str,.str],.str,.row [.int .i64],.str,.row [.str],.row [.str],.int .i64,.row [.str,.str],.str,.int .i64,.bool],.int .i64,.row [.int .i64,.str,.row [.str,.str],.str,.int .i64,.row [.str,.str],.str,.int .i64],.row [.int .i64,.int .i64,.str,.row [.str,.str],.str,.int .i64,.row [.str,.str],.str,.int .i64,.int .i64,.str,.row [.str],.row [.str],.int .i64,.row [.str,.str],.str,.int .i64,.int .i64]]
theorem J5 {ts : List Ty} {l : List X} (h : cu ([.row [.str],.row [.int .i64,.str],.row [.str,.row [.str],.row [.str],.int .i64,.row [.str,.str],.str,.int .i64,.int .i64,.int .i64],.row [.int .i64,.str,.str,.int .i64],.int .i64,.int .i64,.row [.int .i64,.str,.row [.str,.str],.str,.row [.int .i64],.str,.row [.str],.row [.str],.int .i64,.row [.str,.str],.str,.int .i64,.bool],.int .i64,.row [.int .i64,.str,.row [.str,.str],.str,.int .i64,.row [.str,.str],.str,.int .i64],.row [.int .i64,.int .i64,.str,.row [.str,.str],.str,.int .i64,.row [.str,.str],.str,.int .i64,.int .i64,.str,.row [.str],.row [.str],.int .i64,.row [.str,.str],.str,.int .i64,.int .i64]] ++ ts) l) : ∃ (a : Ca) (l' : List X),l = cr .sl a ++ l'∧uC a∧cu ts l':=by
 simp only [List.cons_append,List.nil_append] at h
 obtain ⟨a1,r1,rfl,b1,h1⟩:=Kb (ts:=_) h
 obtain ⟨y2,r2,rfl,c2,h2⟩:=h1.cons
 obtain ⟨a2,rfl,b2⟩:=gT (bg .sl) nX c2 fun r hr=>by
  obtain ⟨a,l',rfl,h1,h2⟩:=J7 (ts:=[]) (by simpa using hr)
  obtain rfl:=h2.nil
  exact ⟨a,by simp,h1⟩
 obtain ⟨y3,r3,rfl,c3,h3⟩:=h2.cons
 obtain ⟨a3,rfl,b3⟩:=eO c3
 obtain ⟨y4,r4,rfl,c4,h4⟩:=h3.cons
 obtain ⟨a4,rfl,b4⟩:=gT (cx .sl) n6 c4 fun r hr=>by
  obtain ⟨a,l',rfl,h1,h2⟩:=Ka (ts:=[]) (by simpa using hr)
  obtain rfl:=h2.nil
  exact ⟨a,by simp,h1⟩
 obtain ⟨y5,r5,rfl,c5,h5⟩:=h4.cons
 obtain ⟨a5,rfl,b5⟩:=gT (cj .sl) nZ c5 fun r hr=>by
  obtain ⟨a,l',rfl,h1,h2⟩:=J9 (ts:=[]) (by simpa using hr)
  obtain rfl:=h2.nil
  exact ⟨a,by simp,h1⟩
 exact ⟨⟨a1,a2,a3,a4,a5⟩,r5,by simp,⟨b1,b2,b3,b4,b5⟩,h5⟩
theorem U1 {x : X} (h : kL (.agg Q2) x) : ∃ a,x = .agg (cr .sl a)∧uC a:=by
 obtain ⟨l,rfl,hl⟩:=J3 h
 obtain ⟨a,l',rfl,h1,h2⟩:=J5 (ts:=[]) (l:=l) (by rw [List.append_nil]; exact hl)
 obtain rfl:=h2.nil
 exact ⟨a,by simp,h1⟩
end M
namespace M
open Go
def dc {β : Type} (p : β→Bool) : Nat→List β→Option (Nat×β)
 | _,[]=>none
 | i,b :: l=>if p b = true then some (i,b) else dc p (i + 1) l
theorem ov {β : Type} {p : β→Bool} : ∀ {l : List β} {k i : Nat} {b : β},dc p k l = some (i,b)→k≤i∧l[i - k]? = some b∧p b = true
 | b' :: l,k,i,b,h=>by
  unfold dc at h
  split at h
  ·rename_i hp
   cases h
   exact ⟨Nat.le_refl _,by simp,hp⟩
  ·obtain ⟨h1,h2,h3⟩:=ov h
   refine ⟨by omega,?_,h3⟩
   rw [show i - k = (i - (k + 1)) + 1 by omega,List.getElem?_cons_succ]
   exact h2
theorem zv {β : Type} {p : β→Bool} : ∀ {l : List β} {k : Nat},dc p k l = none↔∀ b∈l,¬ p b = true
 | [],k=>by simp [dc]
 | b' :: l,k=>by
  unfold dc
  by_cases hp : p b' = true
  ·simp [hp]
  ·rw [if_neg hp,zv]
   simp [hp]
theorem sO {xt : Nat} {β : Type} {f : ag→bF} (l : List β) (st : Nat→ag) (p : β→Bool) (R : Nat→β→ag) (E : ag)
  (h : ∀ i b,l[i]? = some b→i < l.length→f (st i) = if p b = true then some (.ret,R i b) else some (.normal,st (i + 1)))
  (hend : f (st l.length) = some (.exit xt,E)) :
  aH f (st 0) = (dc p 0 l).elim (some (.exit xt,E)) fun x=>some (.ret,R x.1 x.2):=by
 suffices H : ∀ (r : List β) (i : Nat),l.drop i = r→i≤l.length→aH f (st i) = (dc p i r).elim (some (.exit xt,E)) fun x=>some (.ret,R x.1 x.2) from H l 0 rfl (Nat.zero_le _)
 intro r
 induction r with
 | nil =>
  intro i hr hi
  have : i = l.length:=by
   have:=congrArg List.length hr
   simp at this
   omega
  subst this
  rw [iS,hend]
  rfl
 | cons b r ih =>
  intro i hr hi
  have hb : l[i]? = some b:=by
   have:=congrArg (fun t : List β=>t[0]?) hr
   simpa using this
  have hlt : i < l.length:=(List.getElem?_eq_some_iff.1 hb).1
  have hd : l.drop (i + 1) = r:=by
   have:=congrArg List.tail hr
   simpa using this
  rw [iS,h i b hb hlt]
  unfold dc
  by_cases hp : p b = true
  ·simp [hp,lv]
  ·simp only [hp]
   exact ih (i + 1) hd hlt
theorem Bc {xt : Nat} {β γ : Type} {f : ag→bF} (l : List β) (φ : β→List γ) (st : Nat→List γ→ag) (E : List γ→ag)
  (h : ∀ i b out,l[i]? = some b→i < l.length→out = (l.take i).flatMap φ→f (st i out) = some (.normal,st (i + 1) (out ++ φ b)))
  (hend : ∀ out,out = l.flatMap φ→f (st l.length out) = some (.exit xt,E out)) :
  aH f (st 0 []) = some (.exit xt,E (l.flatMap φ)):=by
 suffices H : ∀ (k i : Nat),i + k = l.length→aH f (st i ((l.take i).flatMap φ)) = some (.exit xt,E (l.flatMap φ)) from H l.length 0 (by omega)
 intro k
 induction k with
 | zero =>
  intro i hi
  obtain rfl : i = l.length:=by omega
  rw [List.take_length,iS,hend _ rfl]
  rfl
 | succ k ih =>
  intro i hi
  have hlt : i < l.length:=by omega
  rw [iS,h i l[i] _ (List.getElem?_eq_getElem hlt) hlt rfl]
  have : (l.take i).flatMap φ ++ φ l[i] = (l.take (i + 1)).flatMap φ:=by
   rw [List.take_succ_eq_append_getElem hlt,List.flatMap_append]
   simp
  simp only [this]
  exact ih (i + 1) (by omega)
theorem zx {β γ : Type} (g : β→γ) (l : List β) : l.flatMap (fun b=>[g b]) = l.map g:=by induction l <;> simp_all
theorem DL {β γ : Type} (g : β→γ) (l : List β) (i : Nat) (h : i≤l.length) : ((l.take i).flatMap (fun b=>[g b])).length = i:=by rw [zx]; simp; omega
end M
namespace M
open Go
def iU (b : UInt8) : UInt8:=if 65≤b.toNat∧b.toNat≤90 then b + 32 else b
def bt (s : ah) : ah:=s.map iU
def nR (b : UInt8) : Bool:=decide ((97≤b.toNat∧b.toNat≤122)∨(48≤b.toNat∧b.toNat≤57)∨b.toNat = 45)
def ek (s : ah) : Bool:=aF nR s && decide (1≤(s.length : Int)∧(s.length : Int)≤20)
def fQ (lo : Nat) (b : UInt8) : Bool:=decide (lo≤b.toNat∧b.toNat≤126)
def dG (s : ah) : ah:=Lib.trimB s 32
def gp (s : ah) : Bool:=aF (fQ 32) s && decide (1≤(s.length : Int)∧(s.length : Int)≤60) && decide (dG s = s)
def nx (n : Int) : ah:=if 0≤n∧n≤1000000 then cK n.toNat else []
def eu (b : UInt8) : Bool:=decide (48≤b.toNat∧b.toNat≤57)
def iA (s : ah) : Nat:=s.foldl (fun x b=>10 * x + b.toNat - 48) 0
def cO (s : ah) : Option Nat:=if iA s≤1000000∧cK (iA s) = s then some (iA s) else none
def fP (s : ah) : Bool:=aF (fQ 33) s && decide (1≤(s.length : Int)∧(s.length : Int)≤60) && decide (s[0]?.map (fun b : UInt8=>(b.toNat : Int)) = some 47)
theorem zh {α : Type} (p : α→Bool) : ∀ (a b : List α),(∃ x∈a,p x = false)→(a ++ b).dropWhile p = a.dropWhile p ++ b
 | [],b,h=>by simp at h
 | x :: a,b,h=>by
  simp only [List.cons_append,List.dropWhile_cons]
  by_cases hx : p x = true
  ·simp only [hx,if_true]
   refine zh p a b ?_
   obtain ⟨y,hy,hp⟩:=h
   rcases List.mem_cons.1 hy with rfl | hy
   ·rw [hx] at hp; cases hp
   ·exact ⟨y,hy,hp⟩
  ·simp [hx]
theorem zg {α : Type} (p : α→Bool) : ∀ (a : List α),(∀ x∈a,p x = true)→a.dropWhile p = []
 | [],_=>rfl
 | x :: a,h=>by
  rw [List.dropWhile_cons,if_pos (h x (List.mem_cons_self ..))]
  exact zg p a fun y hy=>h y (List.mem_cons_of_mem _ hy)
theorem zi {α : Type} (p : α→Bool) : ∀ {a : List α} {x : α},x∈a→p x = false→x∈a.dropWhile p
 | y :: a,x,h,hp=>by
  rw [List.dropWhile_cons]
  by_cases hy : p y = true
  ·rw [if_pos hy]
   rcases List.mem_cons.1 h with rfl | h
   ·rw [hy] at hp; cases hp
   ·exact zi p h hp
  ·rw [if_neg hy]; exact h
theorem Di {α : Type} (p : α→Bool) (l : List α) : ∃ a,l = a ++ l.dropWhile p∧∀ x∈a,p x = true:=by
 refine ⟨l.takeWhile p,(List.takeWhile_append_dropWhile).symm,fun x hx=>?_⟩
 have:=List.all_takeWhile (l:=l) (p:=p)
 exact List.all_eq_true.1 this x hx
theorem TH (p : UInt8→Bool) (l : List UInt8) : (l.reverse.dropWhile p).reverse.dropWhile p = ((l.dropWhile p).reverse.dropWhile p).reverse:=by
 by_cases h : ∃ x∈l,p x = false
 ·obtain ⟨x,hx,hp⟩:=h
  obtain ⟨a,e1,h1⟩:=Di p l
  have hm : x∈l.dropWhile p:=zi p hx hp
  have e2 : l.reverse.dropWhile p = (l.dropWhile p).reverse.dropWhile p ++ a.reverse:=by
   conv=>lhs; rw [e1,List.reverse_append]
   exact zh p _ _ ⟨x,by simpa using hm,hp⟩
  rw [e2,List.reverse_append,List.reverse_reverse]
  obtain ⟨b,e3,h3⟩:=Di p (l.dropWhile p).reverse
  generalize hd : (l.dropWhile p).reverse.dropWhile p = d at e3 ⊢
  have ND : ∃ y∈d,p y = false:=⟨x,by rw [← hd]; exact zi p (by simpa using hm) hp,hp⟩
  have e4 : l.dropWhile p = d.reverse ++ b.reverse:=by
   have:=congrArg List.reverse e3
   simpa using this
  have e5 : (a ++ d.reverse).dropWhile p = d.reverse.dropWhile p:=by
   clear e1 e2 e3 hm
   induction a with
   | nil=>rfl
   | cons y a ih =>
    rw [List.cons_append,List.dropWhile_cons,if_pos (h1 y (List.mem_cons_self ..))]
    exact ih fun z hz=>h1 z (List.mem_cons_of_mem _ hz)
  rw [e5]
  have e6 : (l.dropWhile p).dropWhile p = l.dropWhile p:=by
   have : ∀ l : List UInt8,(l.dropWhile p).dropWhile p = l.dropWhile p:=by
    intro l
    induction l with
    | nil=>rfl
    | cons y l ih =>
     rw [List.dropWhile_cons]
     by_cases hy : p y = true
     ·rw [if_pos hy]; exact ih
     ·rw [if_neg hy,List.dropWhile_cons,if_neg hy]
   exact this l
  rw [e4] at e6
  rw [zh p d.reverse b.reverse (by obtain ⟨y,hy,hp⟩:=ND; exact ⟨y,by simpa using hy,hp⟩)] at e6
  exact List.append_cancel_right e6
 ·have h1 : ∀ x∈l,p x = true:=fun x hx=>by
   cases hp : p x with
   | true=>rfl
   | false=>exact absurd ⟨x,hx,hp⟩ h
  rw [zg p l h1,zg p l.reverse (fun x hx=>h1 x (by simpa using hx))]
  rfl
theorem TG (s : ah) : dG s = Lib.trimRightB (Lib.trimLeftB s 32) 32:=TH _ s
theorem F6 (s : ah) : (dG s).length≤s.length:=by
 unfold dG Lib.trimB Lib.trimLeftB Lib.trimRightB
 have h1:=(List.dropWhile_sublist (l:=(List.dropWhile (fun x=>x == 32) s.reverse).reverse) (fun x=>x == (32 : UInt8))).length_le
 have h2:=(List.dropWhile_sublist (l:=s.reverse) (fun x=>x == (32 : UInt8))).length_le
 simp only [List.length_reverse] at h1 h2
 omega
theorem M8 {α β : Type} (f : β→α→β) (l : List α) (a : α) (b : β) : (l ++ [a]).foldl f b = f (l.foldl f b) a:=by simp
theorem zd (n : Nat) : cK n≠[]:=by
 intro h
 have : (cK n).length = Lib.nDigits n:=Lib.decDigits_length n
 rw [h] at this
 have h2:=Lib.nDigits_pos n
 rw [← this] at h2
 simp at h2
theorem zf (n : Nat) (h : ¬ n < 10) : cK n = cK (n / 10) ++ [UInt8.ofNat (48 + n % 10)]:=by
 unfold cK
 rw [Lib.decDigits,dif_neg h]
theorem ze (n : Nat) (h : n < 10) : cK n = [UInt8.ofNat (48 + n)]:=by
 unfold cK
 rw [Lib.decDigits,dif_pos h]
theorem om (k : Nat) (h : k < 10) : (UInt8.ofNat (48 + k)).toNat = 48 + k:=by
 rw [UInt8.toNat_ofNat']
 omega
theorem Ge : ∀ n : Nat,iA (cK n) = n:=by
 intro n
 induction n using Nat.strongRecOn with
 | ind n ih =>
  by_cases h : n < 10
  ·rw [ze n h]
   simp only [iA,List.foldl_cons,List.foldl_nil,om n h]
   omega
  ·rw [zf n h]
   have:=ih (n / 10) (by omega)
   unfold iA at this ⊢
   rw [M8,this,om _ (by omega)]
   omega
theorem Dg : ∀ n : Nat,aF eu (cK n) = true:=by
 intro n
 induction n using Nat.strongRecOn with
 | ind n ih =>
  rw [kS]
  by_cases h : n < 10
  ·rw [ze n h]
   intro x hx
   rw [List.mem_singleton.1 hx]
   unfold eu
   rw [om n h]
   simp; omega
  ·rw [zf n h]
   intro x hx
   rcases List.mem_append.1 hx with hx | hx
   ·exact kS.1 (ih _ (by omega)) x hx
   ·rw [List.mem_singleton.1 hx]
    unfold eu
    rw [om _ (by omega)]
    simp; omega
theorem pL {s : ah} {n : Nat} : cO s = some n↔n≤1000000∧cK n = s:=by
 unfold cO
 constructor
 ·intro h
  split at h
  ·rename_i hc
   cases h
   exact hc
  ·cases h
 ·rintro ⟨h1,rfl⟩
  rw [Ge,if_pos ⟨h1,rfl⟩]
theorem Ku (n : Nat) (h : n≤1000000) : (cK n).length≤7:=Kt 6 n (by omega)
theorem Pr (n : Nat) (h : n≤1000000) : nx (n : Int) = cK n:=by
 unfold nx
 rw [if_pos (by omega)]
 rfl
theorem Pp (s : ah) (h : s.length≤7) : cO s = if s≠[]∧aF eu s = true∧nx (iA s) = s then some (iA s) else none:=by
 cases hr : cO s with
 | some n =>
  obtain ⟨h1,rfl⟩:=pL.1 hr
  rw [Ge,if_pos ⟨zd n,Dg n,Pr n h1⟩]
 | none =>
  rw [if_neg]
  rintro ⟨h1,h2,h3⟩
  have : cO s = some (iA s):=by
   refine pL.2 ?_
   unfold nx at h3
   split at h3
   ·rename_i hc
    exact ⟨by omega,h3⟩
   ·exact absurd h3.symm h1
  rw [this] at hr
  cases hr
theorem Qi : ∀ (n acc : Nat) (l : List UInt8),acc * 10 ^ Lib.nDigits n + n < 10000000000→Lib.parseUint10 acc (cK n ++ l) = Lib.parseUint10 (acc * 10 ^ Lib.nDigits n + n) l:=by
 intro n
 induction n using Nat.strongRecOn with
 | ind n ih =>
  intro acc l hn
  by_cases h : n < 10
  ·rw [ze n h]
   simp only [List.cons_append,List.nil_append,Lib.parseUint10,om n h]
   rw [Lib.nDigits_small h] at hn ⊢
   rw [if_pos (by omega),if_neg (by omega),if_neg (by omega)]
   congr 1
   omega
  ·rw [zf n h,List.append_assoc]
   have e:=Lib.nDigits_big h
   rw [e,Nat.pow_succ] at hn ⊢
   have hm : acc * (10 ^ Lib.nDigits (n / 10) * 10) = acc * 10 ^ Lib.nDigits (n / 10) * 10:=by rw [Nat.mul_assoc]
   rw [hm] at hn ⊢
   rw [ih (n / 10) (by omega) acc _ (by omega)]
   have hd:=om (n % 10) (by omega)
   simp only [List.cons_append,List.nil_append,Lib.parseUint10,hd]
   rw [if_pos (by omega),if_neg (by omega),if_neg (by omega)]
   congr 1
   omega
theorem Cx (n : Nat) (h : n≤1000000) : Lib.atoiAll (cK n) = .ok (n : Int):=by
 cases hd : cK n with
 | nil=>exact absurd hd (zd n)
 | cons c r =>
  have hc:=kS.1 (Dg n) c (by rw [hd]; exact List.mem_cons_self ..)
  simp only [eu,decide_eq_true_eq] at hc
  rw [Lib.atoiAll_plain c r (by omega) (by omega),← hd]
  unfold Lib.parseMag
  rw [if_neg (zd n)]
  have:=Qi n 0 [] (by omega)
  rw [List.append_nil] at this
  rw [this]
  simp only [Lib.parseUint10,Lib.signless]
  rw [if_neg (by omega)]
  simp
theorem Po (s : ah) (n : Int) (h : Lib.atoiAll s = .ok n) : (if 0≤n∧n≤1000000∧Lib.itoa n = s then some n.toNat else none) = cO s:=by
 split
 ·rename_i hc
  symm
  refine pL.2 ⟨by omega,?_⟩
  rw [← EJ,← hc.2.2]
  congr 1
  omega
 ·rename_i hc
  cases hr : cO s with
  | none=>rfl
  | some m =>
   obtain ⟨h1,rfl⟩:=pL.1 hr
   rw [Cx m h1] at h
   obtain rfl : (m : Int) = n:=by injection h
   exact absurd ⟨by omega,by omega,EJ m⟩ hc
theorem Pq (s : ah) (h : ∀ n,Lib.atoiAll s≠.ok n) : cO s = none:=by
 cases hr : cO s with
 | none=>rfl
 | some m =>
  obtain ⟨h1,rfl⟩:=pL.1 hr
  exact absurd (Cx m h1) (h m)
theorem E8 (s : ah) (h : 7 < s.length) : cO s = none:=by
 cases hr : cO s with
 | none=>rfl
 | some m =>
  obtain ⟨h1,rfl⟩:=pL.1 hr
  have:=Ku m h1
  omega
def cl (c : UInt8) : ah→List ah
 | []=>[[]]
 | b :: s=>if b = c then [] :: cl c s else match cl c s with
  | w :: ws=>(b :: w) :: ws
  | []=>[[b]]
theorem FR (c : UInt8) (s : ah) : cl c s≠[]:=by
 cases s with
 | nil=>simp [cl]
 | cons b s =>
  unfold cl
  split
  ·simp
  ·split <;> simp
def en (s : ah) : List ah:=((cl 44 s).map dG).filter fun w=>decide (w≠[])
end M
namespace M
open Go Go.RowKit
def kN (w w' : World) (c : C) : Prop:=(∀ Z,c.ok w' Z)∧c.bare∧∀ b k,c.fp b k→w.heap.size≤b
theorem HU [Bs] {P : Program} {f : FuncId} {xs : List X} {r : X}
  (h : ∀ w zl zb cs,cs.map C.er = xs→kK w zl zb cs→kP w→Calls P f (cs.map C.val).toArray w fun e w'=>∃ c : C,e = .returned c.val∧c.er = r∧Below w.heap.size w w'∧kN w w' c) :
  AC P f xs fun r' ps=>r' = r∧ps = xs.map fun _=>.dead:=by
 intro w zl zb cs e hA lB
 refine (h w zl zb cs e hA fun b hb=>(lB b hb).1).mono fun e' w' ⟨c,he,hc,hb,c1,c2,c3⟩=>?_
 have NI : Ext (fun b k=>∃ x∈cs,x.fp b k) w w':=⟨hb.os,hb.tape,hb.output,hb.size,fun b hl=>.inl (hb.block b hl)⟩
 refine ⟨c,cs.map fun x=>.dead x.val,zl,⟨he,by rw [List.map_map]; rfl,NI,⟨fun x hx'=>?_,fun x hx'=>?_,fun x hx' b k hf=>?_,fun b k hz=>Nat.lt_of_lt_of_le (hA.bE b k (hz.imp id fun h=>h.elim)) hb.size,?_⟩,fun x hx' b k hf=>?_,fun _ _ h=>h,fun _ _ h=>.inl h⟩,hc,?_⟩
 ·rcases List.mem_cons.1 hx' with rfl | hx'
  ·exact c1 _
  ·obtain ⟨y,_,rfl⟩:=List.mem_map.1 hx'; trivial
 ·rcases List.mem_cons.1 hx' with rfl | hx'
  ·exact c2
  ·obtain ⟨y,_,rfl⟩:=List.mem_map.1 hx'; trivial
 ·rcases List.mem_cons.1 hx' with rfl | hx'
  ·have h1:=c3 b k hf
   exact ⟨fun hz=>by have:=hA.bE b k (.inl hz); omega,fun hz=>hz⟩
  ·obtain ⟨y,_,rfl⟩:=List.mem_map.1 hx'; exact hf.elim
 ·refine List.pairwise_cons.2 ⟨fun x hx b k hf hf'=>?_,?_⟩
  ·obtain ⟨y,_,rfl⟩:=List.mem_map.1 hx; exact hf'
  ·refine List.pairwise_iff_getElem.2 fun i j hi hj _ b k hf=>?_
   obtain ⟨y,_,hy⟩:=List.mem_map.1 (List.getElem_mem hi)
   rw [← hy] at hf
   exact hf.elim
 ·rcases List.mem_cons.1 hx' with rfl | hx'
  ·exact .inr (c3 b k hf)
  ·obtain ⟨y,_,rfl⟩:=List.mem_map.1 hx'; exact hf.elim
 ·rw [← e]
  simp [List.map_map,Function.comp_def,C.er]
def eY (f0 : FuncId) (g : List X→Option X) : bw:=fun f xs=>if f = f0 then (match g xs with
 | some r=>some (r,xs.map fun _=>.dead)
 | none=>none) else none
theorem sW [Bs] {P : Program} {f0 : FuncId} {g : List X→Option X}
  (h : ∀ xs r,g xs = some r→∀ w zl zb cs,cs.map C.er = xs→kK w zl zb cs→kP w→Calls P f0 (cs.map C.val).toArray w fun e w'=>∃ c : C,e = .returned c.val∧c.er = r∧Below w.heap.size w w'∧kN w w' c) : (eY f0 g).Sound P:=fun f xs o e=>by
 unfold eY at e
 split at e
 ·rename_i hf
  subst hf
  split at e
  ·rename_i r hr
   cases e
   exact HU (h xs r hr)
  ·cases e
 ·cases e
theorem zn {c : C} {s : ByteArray} (h : c.er = .str s) : c = .str s:=by cases c <;> simp [C.er] at h; rw [h]
theorem map_nil {l : List C} (h : l.map C.er = []) : l = []:=by simpa using h
theorem map_cons {l : List C} {x : X} {xs : List X} (h : l.map C.er = x :: xs) : ∃ c cs,l = c :: cs∧c.er = x∧cs.map C.er = xs:=by
 cases l with
 | nil=>simp at h
 | cons c cs=>simp at h; exact ⟨c,cs,rfl,h.1,h.2⟩
theorem DQ {w w' : World} {s : ByteArray} (h : s.size≤9223372036854775807) : kN w w' (.str s):=⟨fun _=>h,trivial,fun _ _ h=>h.elim⟩
theorem M9 {w w' : World} {k : IntKind} {n : Int} : kN w w' (.int k n):=⟨fun _=>trivial,trivial,fun _ _ h=>h.elim⟩
theorem zB {w w' : World} {b : Bool} : kN w w' (.bool b):=⟨fun _=>trivial,trivial,fun _ _ h=>h.elim⟩
def tZ (l : List C) : C:=.au l.length fun j=>l.getD j (.dead undef)
theorem Bw {α β : Type} (l : List α) (d : α) (g : α→β) : ((List.range l.length).map fun j=>g (l.getD j d)) = l.map g:=by
 apply List.ext_getElem
 ·simp
 ·intro i h1 h2
  simp at h1
  simp [h1]
theorem F8 (l : List C) : (tZ l).er = .au (l.map C.er):=by
 show X.au _ = _
 rw [Bw l _ C.er]
theorem F9 (l : List C) : (tZ l).val = .tuple (l.map C.val).toArray:=by
 show Value.tuple _ = _
 rw [Bw l _ C.val]
theorem DR {w w' : World} {l : List C} (h : ∀ c∈l,kN w w' c∧c.dF∧∀ b k,¬ c.fp b k) : kN w w' (tZ l):=by
 have hm : ∀ j,j < l.length→l.getD j (.dead undef)∈l:=fun j hj=>by simp [List.getD,hj]
 refine ⟨fun Z=>⟨fun j hj=>⟨(h _ (hm j hj)).2.1,(h _ (hm j hj)).1.1 Z⟩,fun j hj b k hf=>((h _ (hm j hj)).2.2 b k hf).elim⟩,fun j hj=>(h _ (hm j hj)).1.2.1,fun b k hf=>?_⟩
 obtain ⟨j,hj,hf⟩:=hf
 exact ((h _ (hm j hj)).2.2 b k hf).elim
theorem Na {w w' : World} {g : Nat} {t : TypeId} {l : List ByteArray} (hg : w.heap.size≤g) (hb : w'.heap[g]? = some (.cells (l.map Value.string).toArray t (0,0))) (hs : ∀ s∈l,s.size≤9223372036854775807) :
  kN w w' (.row .own 1 (some (g,0,none)) l.length l.length fun i _=>.str (l.getD i ByteArray.empty)):=by
 have hm : ∀ j,j < l.length→l.getD j ByteArray.empty∈l:=fun j hj=>by simp [List.getD,hj]
 refine ⟨fun Z=>⟨Nat.le_refl _,fun i j hi hj=>⟨g,0,rfl,?_,fun h=>absurd rfl h⟩,fun i j hi hj=>⟨trivial,trivial,trivial,hs _ (hm i hi)⟩,fun _=>.inr ⟨g,0,_,t,(0,0),rfl,hb,?_,fun k _ _=>?_⟩,fun i j hi hj b k hf=>hf.elim⟩,trivial,fun b k hf=>?_⟩
 ·obtain rfl : j = 0:=by omega
  simp only [World.cell?,hb]
  simp [C.val,hi,Go.Value.oneCell']
 ·simp
 ·simp [World.frozen?,hb]
 ·obtain ⟨_,h | ⟨i,j,_,_,h⟩⟩:=hf
  ·obtain ⟨o,h⟩:=h
   have hgb:=congrArg Prod.fst (Option.some.inj h)
   have hgb : g = b:=hgb; exact hgb ▸ hg
  ·exact h.elim
theorem QC (l : List ByteArray) (g cap : Nat) : (C.row .own 1 (some (g,0,none)) l.length cap fun i _=>.str (l.getD i ByteArray.empty)).er = .row .own 1 (l.map fun s=>[.str s]):=by
 show X.row _ _ _ = _
 congr 1
 have:=Bw l ByteArray.empty fun s=>[X.str s]
 rw [← this]
 rfl
end M
namespace M
open Go
def xJ (s : ah) : X:=.str ⟨s.toArray⟩
def BC (l : List ah) : X:=.row .own 1 (l.map eS)
def xQ : List X→Option X
 | [.str s,.str c]=>if c.data.toList = [32]∧s.size≤9223372036854775807 then some (xJ (dG s.data.toList)) else none
 | _=>none
def xH : List X→Option X
 | [.str s,.str c]=>if s.size < 4294967281∧1≤c.size then some (BC (Lib.split s.data.toList c.data.toList)) else none
 | _=>none
def ve : List X→Option X
 | [.str s,.str c]=>some (.bool (Lib.hasPrefix s.data.toList c.data.toList))
 | _=>none
def uL : List X→Option X
 | [.str s,.str c]=>if s.size≤9223372036854775807 then some (.au [xJ (Lib.trimPrefix s.data.toList c.data.toList),.bool (Lib.hasPrefix s.data.toList c.data.toList)]) else none
 | _=>none
def w5 : List X→Option X
 | [.str s]=>if s.size≤9223372036854775807 then some (match cO s.data.toList with
  | some n=>.au [.int .i64 n,.bool true]
  | none=>.au [.int .i64 0,.bool false]) else none
 | _=>none
theorem count_nil (c : UInt8) : Lib.count [] [c] = 0:=by rw [Lib.count_one]; rfl
theorem QT (c : UInt8) : ∀ s : ah,Lib.split s [c] = cl c s:=by
 have key : ∀ (n : Nat) (s : ah),s.length≤n→Lib.splitK [c] 0 (Lib.count s [c]) s = cl c s:=by
  intro n
  induction n with
  | zero =>
   intro s hs
   obtain rfl : s = []:=List.length_eq_zero_iff.1 (by omega)
   rw [count_nil]
   rfl
  | succ n ih =>
   intro s hs
   cases s with
   | nil=>rw [count_nil]; rfl
   | cons b s =>
    simp at hs
    have vR:=ih s (by omega)
    by_cases hb : b = c
    ·subst hb
     rw [Lib.count_cons_eq,Nat.add_comm]
     have hi : Lib.index (b :: s) [b] = 0:=Lib.index_first (i:=0) (Nat.zero_le _) (by simp [Lib.occAt]) (fun _ h=>absurd h (Nat.not_lt_zero _))
     simp only [Lib.splitK,hi,cl]
     simp [vR]
    ·rw [Lib.count_cons_ne _ _ _ hb]
     have hnext : Lib.index (b :: s) [c] = if Lib.index s [c] = -1 then -1 else Lib.index s [c] + 1:=by
      have h:=Lib.index_drop (s:=b :: s) (sub:=[c]) (i:=1) (fun j hj=>by
       obtain rfl : j = 0:=by omega
       simp [Lib.occAt,List.isPrefixOf,Ne.symm hb]) (by simp)
      simp at h
      exact h
     rw [cl,if_neg hb,← vR]
     cases hk : Lib.count s [c] with
     | zero=>simp [Lib.splitK]
     | succ k =>
      simp only [Lib.splitK,hnext]
      by_cases h1 : Lib.index s [c] = -1
      ·simp [h1]
      ·have h0 : 0≤Lib.index s [c]:=by
        have : -1≤Lib.index s [c]:=Lib.index_ge _ _
        omega
       have h2 : ¬ Lib.index s [c] + 1 = -1:=by omega
       have h3 : (Lib.index s [c] + 1).toNat = (Lib.index s [c]).toNat + 1:=by omega
       simp [h1,h2,h3]
 intro s
 exact key s.length s (Nat.le_refl _)
end M
namespace M
open Go
def cJ {β : Type} (p : β→Bool) (l : List β) : Nat:=(l.takeWhile fun b=>!p b).length
theorem EX {β : Type} {f : ag→bF} (l : List β) (st : Nat→ag) (p : β→Bool) (E : Nat→ag) {x : Nat}
  (h : ∀ i b,l[i]? = some b→i < l.length→f (st i) = if p b = true then some (.exit x,E i) else some (.normal,st (i + 1)))
  (hend : f (st l.length) = some (.exit x,E l.length)) : aH f (st 0) = some (.exit x,E (cJ p l)):=by
 suffices H : ∀ (r : List β) (i : Nat),l.drop i = r→i≤l.length→aH f (st i) = some (.exit x,E (i + cJ p r)) by
  have:=H l 0 rfl (Nat.zero_le _)
  rwa [Nat.zero_add] at this
 intro r
 induction r with
 | nil =>
  intro i hr hi
  have : i = l.length:=by
   have:=congrArg List.length hr
   simp at this
   omega
  subst this
  rw [iS,hend]
  rfl
 | cons b r ih =>
  intro i hr hi
  have hb : l[i]? = some b:=by
   have:=congrArg (fun t : List β=>t[0]?) hr
   simpa using this
  have hlt : i < l.length:=(List.getElem?_eq_some_iff.1 hb).1
  have hd : l.drop (i + 1) = r:=by
   have:=congrArg List.tail hr
   simpa using this
  rw [iS,h i b hb hlt]
  unfold cJ
  by_cases hp : p b = true
  ·simp [hp,di]
  ·have:=ih (i + 1) hd hlt
   simp only [hp]
   have e : i + 1 + cJ p r = i + (cJ p r + 1):=by omega
   rw [e] at this
   simp [hp,di,this,cJ]
theorem xU {β : Type} (p : β→Bool) (l : List β) : cJ p l≤l.length:=by
 unfold cJ
 exact (List.takeWhile_sublist _).length_le
theorem Gd {β : Type} (p : β→Bool) : ∀ (l : List β) (j : Nat) (b : β),j < cJ p l→l[j]? = some b→p b = false
 | [],j,b,h,_=>by simp [cJ] at h
 | a :: l,j,b,h,hb=>by
  unfold cJ at h
  rw [List.takeWhile_cons] at h
  by_cases hp : p a = true
  ·simp [hp] at h
  ·simp only [hp,Bool.not_false,if_true,List.length_cons] at h
   cases j with
   | zero=>simp at hb; subst hb; simpa using hp
   | succ j=>exact Gd p l j b (by unfold cJ; omega) (by simpa using hb)
theorem Gc {β : Type} (p : β→Bool) : ∀ (l : List β) (b : β),l[cJ p l]? = some b→p b = true
 | [],b,h=>by simp at h
 | a :: l,b,h=>by
  unfold cJ at h
  rw [List.takeWhile_cons] at h
  by_cases hp : p a = true
  ·simp [hp] at h; subst h; exact hp
  ·simp only [hp,Bool.not_false,if_true,List.length_cons,List.getElem?_cons_succ] at h
   exact Gc p l b h
def fk (c : UInt8) (f : ah→List ah) (s : ah) (i : Nat) (g : List ah×Nat) (b : Option UInt8) : List ah×Nat:=match b with
 | some b=>if b = c then (g.1 ++ f ((s.take i).drop g.2),i + 1) else g
 | none=>(g.1 ++ f ((s.take i).drop g.2),i + 1)
theorem BW (c : UInt8) : ∀ (cur rest : ah),(∀ b∈cur,b≠c)→cl c (cur ++ rest) = match cl c rest with
  | w :: ws=>(cur ++ w) :: ws
  | []=>[cur]
 | [],rest,_=>by
  cases h : cl c rest with
  | nil=>exact absurd h (FR c rest)
  | cons w ws=>simpa using h
 | a :: cur,rest,h=>by
  rw [List.cons_append,cl,if_neg (h a (List.mem_cons_self ..)),BW c cur rest fun b hb=>h b (List.mem_cons_of_mem _ hb)]
  cases cl c rest <;> simp
theorem QO (c : UInt8) (cur : ah) (h : ∀ b∈cur,b≠c) : cl c cur = [cur]:=by
 have:=BW c cur [] h
 simpa [cl] using this
theorem B0 : ∀ (p cur rest : ah),((p ++ (cur ++ rest)).take (p.length + cur.length)).drop p.length = cur
 | [],cur,rest=>by simp
 | a :: p,cur,rest=>by
  have:=B0 p cur rest
  simp only [List.length_cons,List.cons_append,show p.length + 1 + cur.length = p.length + cur.length + 1 by omega,List.take_succ_cons,List.drop_succ_cons]
  exact this
theorem M7 (c : UInt8) (f : ah→List ah) (s : ah) : foldI (fk c f s) 0 (s.map some ++ [none]) ([],0) = ((cl c s).flatMap f,s.length + 1):=by
 suffices H : ∀ (rest p cur : ah) (out : List ah),s = p ++ cur ++ rest→(∀ b∈cur,b≠c)→foldI (fk c f s) (p.length + cur.length) (rest.map some ++ [none]) (out,p.length) = (out ++ (cl c (cur ++ rest)).flatMap f,s.length + 1) by
  have:=H s [] [] [] rfl (by simp)
  simpa using this
 intro rest
 induction rest with
 | nil =>
  intro p cur out hs hc
  simp only [List.append_nil] at hs ⊢
  rw [QO c cur hc]
  subst hs
  have e1:=B0 p cur []
  rw [List.append_nil] at e1
  simp [foldI,fk,e1]
 | cons b rest ih =>
  intro p cur out hs hc
  simp only [List.map_cons,List.cons_append,foldI]
  by_cases hb : b = c
  ·subst hb
   have e1 : (s.take (p.length + cur.length)).drop p.length = cur:=by subst hs; have:=B0 p cur (b :: rest); rwa [← List.append_assoc] at this
   have:=ih (p ++ cur ++ [b]) [] (out ++ f cur) (by simp [hs]) (by simp)
   simp only [List.length_append,List.length_cons,List.length_nil,List.nil_append] at this
   simp only [fk,if_true,e1]
   rw [show p.length + cur.length + 1 = p.length + cur.length + (0 + 1) + 0 by omega,this,BW b cur (b :: rest) hc]
   simp [cl]
  ·have:=ih p (cur ++ [b]) out (by simp [hs]) (by
    intro x hx
    rcases List.mem_append.1 hx with hx | hx
    ·exact hc x hx
    ·rw [List.mem_singleton.1 hx]; exact hb)
   simp only [List.length_append,List.length_cons,List.length_nil] at this
   simp only [fk,hb,if_false]
   rw [show p.length + cur.length + 1 = p.length + (cur.length + (0 + 1)) by omega,this]
   simp
theorem Gj (s : ah) : en s = (cl 44 s).flatMap fun w=>if dG w≠[] then [dG w] else []:=by
 unfold en
 induction cl 44 s with
 | nil=>rfl
 | cons w l ih =>
  simp only [List.map_cons,List.filter_cons,List.flatMap_cons,← ih]
  by_cases h : dG w = [] <;> simp [h]
@[simp] theorem Vq (l : List UInt8) : l.map (fun b : UInt8=>[X.int IntKind.u8 (b.toNat : Int)]) = l.map eU:=rfl
@[simp] theorem Xj (l : List UInt8) : l7 (l.map eU) = some l:=Gb l
theorem BZ (c : UInt8) : ∀ s : ah,((cl c s).map List.length).sum + (cl c s).length = s.length + 1
 | []=>rfl
 | b :: s=>by
  have:=BZ c s
  unfold cl
  split
  ·simp; omega
  ·cases h : cl c s with
   | nil=>exact absurd h (FR c s)
   | cons w ws=>rw [h] at this; simp at this ⊢; omega
theorem FP (c : UInt8) (s : ah) : (cl c s).length≤s.length + 1:=by have:=BZ c s; omega
theorem FQ (c : UInt8) (s : ah) : ∀ w∈cl c s,w.length≤s.length:=by
 intro w hw
 have h:=BZ c s
 have h1 : w.length + 1≤((cl c s).map List.length).sum + (cl c s).length:=by
  clear h
  revert hw
  generalize cl c s = l
  intro hw
  induction l with
  | nil=>cases hw
  | cons x l ih =>
   rcases List.mem_cons.1 hw with rfl | hw
   ·simp; omega
   ·have:=ih hw; simp; omega
 omega
theorem EY (b : UInt8) (h : 65≤b.toNat∧b.toNat≤90) : (b + 32).toNat = b.toNat + 32:=by
 rw [UInt8.toNat_add]
 have : (32 : UInt8).toNat = 32:=rfl
 omega
theorem Gl {n : Int} (h1 : 0≤n) (h2 : n < 256) : IntKind.u8.wrap n = n:=Gm h1 h2
end M
namespace M
theorem KJ {β γ : Type} (φ : β→List γ) (hφ : ∀ b,(φ b).length≤1) (l : List β) (i : Nat) : ((l.take i).flatMap φ).length≤i:=by
 induction l generalizing i with
 | nil=>simp
 | cons b l ih =>
  cases i with
  | zero=>simp
  | succ i =>
   have:=ih i
   have:=hφ b
   simp only [List.take_succ_cons,List.flatMap_cons,List.length_append]
   omega
end M
namespace M
@[simp] theorem Uu (i : Nat) : ((i : Int) < 0) = False:=by simp
end M
namespace M
def fy {α : Type} (f : α→α) (l : List α) (i : Nat) : List α:=(l.take i).map f ++ l.drop i
@[simp] theorem V5 {α : Type} (f : α→α) (l : List α) (i : Nat) : (fy f l i).length = l.length:=by simp [fy]; omega
theorem OW {α : Type} (f : α→α) (l : List α) : fy f l 0 = l:=by simp [fy]
theorem OS {α : Type} (f : α→α) (l : List α) : fy f l l.length = l.map f:=by simp [fy]
theorem OT {α : Type} (f : α→α) (l : List α) (i : Nat) (h : i < l.length) : (fy f l i)[i]? = some l[i]:=by
 unfold fy
 rw [List.getElem?_append_right (by simp; omega)]
 have : i - ((l.take i).map f).length = 0:=by simp; omega
 rw [this]
 simp [h]
theorem OU {α : Type} (f : α→α) (l : List α) (i : Nat) (h : i < l.length) (h' : i < (fy f l i).length) : (fy f l i)[i] = l[i]:=by
 have:=OT f l i h
 rw [List.getElem?_eq_getElem h'] at this
 exact Option.some.inj this
theorem OV {α : Type} (f : α→α) (l : List α) (i : Nat) (h : i < l.length) : (fy f l i).set i (f l[i]) = fy f l (i + 1):=by
 unfold fy
 rw [List.set_append_right _ _ (by simp; omega),List.drop_eq_getElem_cons h]
 have : i - ((l.take i).map f).length = 0:=by simp; omega
 rw [this,List.take_succ_eq_append_getElem h]
 simp only [List.set_cons_zero,List.map_append,List.map_cons,List.map_nil,List.append_assoc,List.cons_append,List.nil_append]
end M
namespace M
@[simp] theorem OZ (m : Md) : ∀ (i : Nat) (l : List (List X)),X.bn m (l.take i) = (X.bn m l).take i
 | 0,l=>by simp [X.bn]
 | i + 1,[]=>by simp [X.bn]
 | i + 1,a :: l=>by simp [X.bn,OZ m i l]
@[simp] theorem OY (m : Md) : ∀ (i : Nat) (l : List (List X)),X.bn m (l.drop i) = (X.bn m l).drop i
 | 0,l=>by simp
 | i + 1,[]=>by simp [X.bn]
 | i + 1,a :: l=>by simp [X.bn,OY m i l]
end M
namespace M
open Go
abbrev wZ : ah:=[99,111,110,116,101,110,116,45,108,101,110,103,116,104]
abbrev iW : ah:=[99,97,99,104,101,45,99,111,110,116,114,111,108]
abbrev fO : ah:=[118,97,114,121]
theorem xX {l : List ah} {a : ah} (h : a∈l) : a.length≤wL wS l:=dx (w:=wS) h
theorem Cb {l : List aL} {a : aL} (h : a∈l) : a.name.length + a.value.length≤wL aJ l:=dx (w:=aJ) h
def fD (fs : List aL) (n : ah) : Option (Nat×aL):=dc (fun f=>decide (f.name = n)) 0 fs
def fR (o : Option (Nat×aL)) : Int:=o.elim (-1) fun x=>(x.1 : Int)
def cE (fs : List aL) (n : ah) : Option ah:=(fD fs n).map fun x=>x.2.value
theorem Ib {fs : List aL} {n : ah} {i : Nat} {f : aL} (h : fD fs n = some (i,f)) : ∃ hi : i < fs.length,fs[i] = f∧f.name = n:=by
 obtain ⟨_,h2,h3⟩:=ov h
 simp at h2 h3
 obtain ⟨hi,e⟩:=List.getElem?_eq_some_iff.1 h2
 exact ⟨hi,e,h3⟩
theorem qO (fs : List aL) (n : ah) : ((cE fs n).getD []).length≤wL aJ fs:=by
 unfold cE
 cases h : fD fs n with
 | none=>simp
 | some x =>
  obtain ⟨i,f⟩:=x
  obtain ⟨hi,rfl,_⟩:=Ib h
  have:=Cb (List.getElem_mem hi)
  simp
  omega
def fH (fs : List aL) (x : aL×Nat) : Bool:=ek x.1.name && gp x.1.value && decide (fR (fD fs x.1.name) = x.2) && !decide (x.1.name = wZ)
def jR (fs : List aL) : Bool:=aF (fH fs) fs.zipIdx && decide ((fs.length : Int)≤8)
def nC (r : dm) : Bool:=decide (100≤r.status∧r.status≤599) && jR r.fields && decide ((r.body.length : Int)≤120)
def ja (q : Rq) : Bool:=decide (1≤q.method∧q.method≤4) && fP q.path && jR q.fields && decide ((q.body.length : Int)≤120)
def jI (fs : List aL) : List ah:=(en ((cE fs fO).getD [])).map bt
def Bj (l : List ah) : Bool:=aF ek l && decide ((l.length : Int)≤4)
def gm (o : Ob) : Bool:=nC o.resp && fP o.path && decide (0≤o.t∧o.t≤1000000) && Bj o.names && decide (o.names = jI o.resp.fields) && decide (o.values.length = o.names.length) && aF gp o.values
def gv (b : Bn) : Bool:=decide (0≤b.t∧b.t≤1000000) && (if b.kind = 1∨b.kind = 2 then fP b.a && decide (b.b = []) else if b.kind = 3 then ek b.a && gp b.b else false)
def hY (b : Bn) (o : Ob) : Bool:=decide (o.t≤b.t) && gv b && gm o && (if b.kind = 1 then decide (o.path = b.a) else if b.kind = 2 then b.a.isPrefixOf o.path else decide (cE o.resp.fields b.a = some b.b))
def eC (l : List Bn) (o : Ob) : Bool:=l.any fun b=>hY b o
def nA (w : Wr) : Bool:=decide (0≤w.at_∧w.at_≤19)
def ny (d : eo) : Bool:=aF nA d.pending && decide ((d.cells.length : Int) = 20) && decide ((d.pending.length : Int)≤16)
def iZ (l : List Kp) (i : Nat) : Int:=if i = 0 then 0 else (l[i - 1]?.map fun k=>k.seq).getD 0
def mY (S : Int) (l : List Kp) (x : Kp×Nat) : Bool:=gm x.1.obj && decide (5≤x.1.at_∧x.1.at_≤19) && aF (fun y=>decide ¬ y.at_ = x.1.at_) (l.take x.2) && decide (iZ l x.2 < x.1.seq) && decide (x.1.seq < S)
def gG (S : Int) (l : List Kp) (x : Kp×Nat) : Bool:=gm x.1.obj && decide (5≤x.1.at_∧x.1.at_≤19) && decide (1≤x.1.seq∧x.1.seq≤S - 1) && decide (x.2 = 0∨iZ l x.2 < x.1.seq) && aF (fun y=>decide ¬ y.at_ = x.1.at_) (l.take x.2)
def s7 (S : Int) (l : List Kp) : Bool:=aF (mY S l) l.zipIdx
theorem Bu (l : List Kp) (i : Nat) (h : i < l.length) : iZ l (i + 1) = l[i].seq:=by simp [iZ,h]
theorem OQ (S : Int) (l : List Kp) : aF (gG S l) l.zipIdx = s7 S l:=by
 unfold s7
 rw [Bool.eq_iff_iff,kS,kS]
 have hm : ∀ x∈l.zipIdx,∃ h : x.2 < l.length,x.1 = l[x.2]:=fun x hx=>by
  obtain ⟨i,hi,rfl⟩:=List.getElem_of_mem hx
  simp at hi
  exact ⟨by simpa using hi,by simp⟩
 have hz : ∀ i (h : i < l.length),(l[i],i)∈l.zipIdx:=fun i h=>by
  have : (l.zipIdx)[i]'(by simpa using h) = (l[i],i):=by simp
  rw [← this]; exact List.getElem_mem _
 constructor
 ·intro h x hx
  have h1:=h x hx
  simp only [gG,mY,Bool.and_eq_true,decide_eq_true_eq] at h1 ⊢
  obtain ⟨⟨⟨⟨a,b⟩,c⟩,d⟩,e⟩:=h1
  refine ⟨⟨⟨⟨a,b⟩,e⟩,?_⟩,by omega⟩
  rcases d with d | d
  ·rw [d]
   have : iZ l 0 = 0:=rfl
   omega
  ·exact d
 ·intro h
  have pos : ∀ i (hi : i < l.length),1≤l[i].seq:=by
   intro i
   induction i with
   | zero =>
    intro hi
    have h1:=h _ (hz 0 hi)
    simp only [mY,Bool.and_eq_true,decide_eq_true_eq] at h1
    have : iZ l 0 = 0:=rfl
    omega
   | succ i ih =>
    intro hi
    have h1:=h _ (hz (i + 1) hi)
    simp only [mY,Bool.and_eq_true,decide_eq_true_eq] at h1
    have h2:=Bu l i (by omega)
    have h3:=ih (by omega)
    omega
  intro x hx
  have h1:=h x hx
  obtain ⟨hl,e⟩:=hm x hx
  have h2:=pos x.2 hl
  rw [← e] at h2
  simp only [gG,mY,Bool.and_eq_true,decide_eq_true_eq] at h1 ⊢
  obtain ⟨⟨⟨⟨a,b⟩,c⟩,d⟩,f⟩:=h1
  exact ⟨⟨⟨⟨a,b⟩,by omega⟩,.inr d⟩,c⟩
theorem DI {β : Type} (p : β→Bool) : ∀ (l : List β) (k : Nat),(dc p k l).isSome = !aF (fun b=>!p b) l
 | [],_=>rfl
 | b :: l,k=>by
  unfold dc aF
  by_cases h : p b = true
  ·simp [h]
  ·have:=DI p l (k + 1)
   unfold aF at this
   simp [h,this]
theorem Cd {l : List Kp} {k : Kp} (h : k∈l) : bA k.obj≤wL bu l:=dx (w:=bu) h
theorem xV {l : List Bn} {b : Bn} (h : b∈l) : aQ b≤wL aQ l:=dx (w:=aQ) h
def nO (s : Sh) : Bool:=ny s.bC && decide ((s.aC.length : Int)≤5) && decide (5≤s.next∧s.next≤19) && decide (1≤s.seq∧s.seq≤100000) && aF gv s.aC && s7 s.seq s.aB
end M
namespace M
open Go
def dD (_ : Int) (k : Int) : Int:=k
def cN (_ : ah) (k : Int) : ah:=sQ k
def E1 (_ : Bool) (k : Int) : Bool:=decide (k.tmod 3 = 0)
def aO {α : Type} (_ : α) : Nat:=1
def cG {α : Type} (mk : α→Int→α) (n : α→Nat) : List α→Int→List α
 | [],_=>[]
 | a :: l,k=>mk a k :: cG mk n l (k + (n a : Nat))
def nL {α : Type} (n : α→Nat) (l : List α) : Nat:=(l.map n).sum
@[simp] theorem O4 {α : Type} (mk : α→Int→α) (n : α→Nat) : ∀ (l : List α) (k : Int),(cG mk n l k).length = l.length
 | [],_=>rfl
 | a :: l,k=>by simp [cG,O4 mk n l]
def jw (a : aL) (k : Int) : aL:=⟨cN a.name (k),cN a.value (k + 1)⟩
def aN (a : aL) : Nat:=2
def Pa (a : Wr) (k : Int) : Wr:=⟨dD a.at_ (k),cN a.text (k + 1)⟩
def Da (a : Wr) : Nat:=2
def O7 (a : Kp) (k : Int) : Kp:=⟨⟨cN a.obj.path (k),cG cN aO a.obj.names (k + 1),cG cN aO a.obj.values (k + 1 + (nL aO a.obj.names : Nat)),⟨dD a.obj.resp.status (k + 1 + (nL aO a.obj.names : Nat) + (nL aO a.obj.values : Nat)),cG jw aN a.obj.resp.fields (k + 1 + (nL aO a.obj.names : Nat) + (nL aO a.obj.values : Nat) + 1),cN a.obj.resp.body (k + 1 + (nL aO a.obj.names : Nat) + (nL aO a.obj.values : Nat) + 1 + (nL aN a.obj.resp.fields : Nat))⟩,dD a.obj.t (k + 1 + (nL aO a.obj.names : Nat) + (nL aO a.obj.values : Nat) + 1 + (nL aN a.obj.resp.fields : Nat) + 1)⟩,dD a.at_ (k + 1 + (nL aO a.obj.names : Nat) + (nL aO a.obj.values : Nat) + 1 + (nL aN a.obj.resp.fields : Nat) + 1 + 1),dD a.seq (k + 1 + (nL aO a.obj.names : Nat) + (nL aO a.obj.values : Nat) + 1 + (nL aN a.obj.resp.fields : Nat) + 1 + 1 + 1)⟩
def y8 (a : Kp) : Nat:=6 + nL aO a.obj.names + nL aO a.obj.values + nL aN a.obj.resp.fields
def O5 (a : Bn) (k : Int) : Bn:=⟨dD a.kind (k),cN a.a (k + 1),cN a.b (k + 1 + 1),dD a.t (k + 1 + 1 + 1)⟩
def C8 (a : Bn) : Nat:=4
def O6 (a : Fl) (k : Int) : Fl:=⟨⟨dD a.q.method (k),cN a.q.path (k + 1),cG jw aN a.q.fields (k + 1 + 1),cN a.q.body (k + 1 + 1 + (nL aN a.q.fields : Nat))⟩,cG dD aO a.who (k + 1 + 1 + (nL aN a.q.fields : Nat) + 1),⟨cN a.old.path (k + 1 + 1 + (nL aN a.q.fields : Nat) + 1 + (nL aO a.who : Nat)),cG cN aO a.old.names (k + 1 + 1 + (nL aN a.q.fields : Nat) + 1 + (nL aO a.who : Nat) + 1),cG cN aO a.old.values (k + 1 + 1 + (nL aN a.q.fields : Nat) + 1 + (nL aO a.who : Nat) + 1 + (nL aO a.old.names : Nat)),⟨dD a.old.resp.status (k + 1 + 1 + (nL aN a.q.fields : Nat) + 1 + (nL aO a.who : Nat) + 1 + (nL aO a.old.names : Nat) + (nL aO a.old.values : Nat)),cG jw aN a.old.resp.fields (k + 1 + 1 + (nL aN a.q.fields : Nat) + 1 + (nL aO a.who : Nat) + 1 + (nL aO a.old.names : Nat) + (nL aO a.old.values : Nat) + 1),cN a.old.resp.body (k + 1 + 1 + (nL aN a.q.fields : Nat) + 1 + (nL aO a.who : Nat) + 1 + (nL aO a.old.names : Nat) + (nL aO a.old.values : Nat) + 1 + (nL aN a.old.resp.fields : Nat))⟩,dD a.old.t (k + 1 + 1 + (nL aN a.q.fields : Nat) + 1 + (nL aO a.who : Nat) + 1 + (nL aO a.old.names : Nat) + (nL aO a.old.values : Nat) + 1 + (nL aN a.old.resp.fields : Nat) + 1)⟩,E1 a.jo (k + 1 + 1 + (nL aN a.q.fields : Nat) + 1 + (nL aO a.who : Nat) + 1 + (nL aO a.old.names : Nat) + (nL aO a.old.values : Nat) + 1 + (nL aN a.old.resp.fields : Nat) + 1 + 1)⟩
def y6 (a : Fl) : Nat:=8 + nL aN a.q.fields + nL aO a.who + nL aO a.old.names + nL aO a.old.values + nL aN a.old.resp.fields
def O9 (a : Se) (k : Int) : Se:=⟨⟨dD a.q.method (k),cN a.q.path (k + 1),cG jw aN a.q.fields (k + 1 + 1),cN a.q.body (k + 1 + 1 + (nL aN a.q.fields : Nat))⟩,⟨dD a.resp.status (k + 1 + 1 + (nL aN a.q.fields : Nat) + 1),cG jw aN a.resp.fields (k + 1 + 1 + (nL aN a.q.fields : Nat) + 1 + 1),cN a.resp.body (k + 1 + 1 + (nL aN a.q.fields : Nat) + 1 + 1 + (nL aN a.resp.fields : Nat))⟩,dD a.t (k + 1 + 1 + (nL aN a.q.fields : Nat) + 1 + 1 + (nL aN a.resp.fields : Nat) + 1)⟩
def C9 (a : Se) : Nat:=6 + nL aN a.q.fields + nL aN a.resp.fields
def O8 (a : Rp) (k : Int) : Rp:=⟨dD a.client (k),⟨dD a.q.method (k + 1),cN a.q.path (k + 1 + 1),cG jw aN a.q.fields (k + 1 + 1 + 1),cN a.q.body (k + 1 + 1 + 1 + (nL aN a.q.fields : Nat))⟩,⟨dD a.resp.status (k + 1 + 1 + 1 + (nL aN a.q.fields : Nat) + 1),cG jw aN a.resp.fields (k + 1 + 1 + 1 + (nL aN a.q.fields : Nat) + 1 + 1),cN a.resp.body (k + 1 + 1 + 1 + (nL aN a.q.fields : Nat) + 1 + 1 + (nL aN a.resp.fields : Nat))⟩,dD a.kind (k + 1 + 1 + 1 + (nL aN a.q.fields : Nat) + 1 + 1 + (nL aN a.resp.fields : Nat) + 1),dD a.t (k + 1 + 1 + 1 + (nL aN a.q.fields : Nat) + 1 + 1 + (nL aN a.resp.fields : Nat) + 1 + 1),⟨cN a.obj.path (k + 1 + 1 + 1 + (nL aN a.q.fields : Nat) + 1 + 1 + (nL aN a.resp.fields : Nat) + 1 + 1 + 1),cG cN aO a.obj.names (k + 1 + 1 + 1 + (nL aN a.q.fields : Nat) + 1 + 1 + (nL aN a.resp.fields : Nat) + 1 + 1 + 1 + 1),cG cN aO a.obj.values (k + 1 + 1 + 1 + (nL aN a.q.fields : Nat) + 1 + 1 + (nL aN a.resp.fields : Nat) + 1 + 1 + 1 + 1 + (nL aO a.obj.names : Nat)),⟨dD a.obj.resp.status (k + 1 + 1 + 1 + (nL aN a.q.fields : Nat) + 1 + 1 + (nL aN a.resp.fields : Nat) + 1 + 1 + 1 + 1 + (nL aO a.obj.names : Nat) + (nL aO a.obj.values : Nat)),cG jw aN a.obj.resp.fields (k + 1 + 1 + 1 + (nL aN a.q.fields : Nat) + 1 + 1 + (nL aN a.resp.fields : Nat) + 1 + 1 + 1 + 1 + (nL aO a.obj.names : Nat) + (nL aO a.obj.values : Nat) + 1),cN a.obj.resp.body (k + 1 + 1 + 1 + (nL aN a.q.fields : Nat) + 1 + 1 + (nL aN a.resp.fields : Nat) + 1 + 1 + 1 + 1 + (nL aO a.obj.names : Nat) + (nL aO a.obj.values : Nat) + 1 + (nL aN a.obj.resp.fields : Nat))⟩,dD a.obj.t (k + 1 + 1 + 1 + (nL aN a.q.fields : Nat) + 1 + 1 + (nL aN a.resp.fields : Nat) + 1 + 1 + 1 + 1 + (nL aO a.obj.names : Nat) + (nL aO a.obj.values : Nat) + 1 + (nL aN a.obj.resp.fields : Nat) + 1)⟩,dD a.aC (k + 1 + 1 + 1 + (nL aN a.q.fields : Nat) + 1 + 1 + (nL aN a.resp.fields : Nat) + 1 + 1 + 1 + 1 + (nL aO a.obj.names : Nat) + (nL aO a.obj.values : Nat) + 1 + (nL aN a.obj.resp.fields : Nat) + 1 + 1)⟩
def J1 (a : Rp) : Nat:=13 + nL aN a.q.fields + nL aN a.resp.fields + nL aO a.obj.names + nL aO a.obj.values + nL aN a.obj.resp.fields
def tX (a : Rq) (k : Int) : Rq:=⟨a.method,a.path,cG jw aN a.fields (k),a.body⟩
@[simp] theorem Xc (a : Rq) (k : Int) : (tX a k).method = a.method:=rfl
@[simp] theorem Xd (a : Rq) (k : Int) : (tX a k).path = a.path:=rfl
@[simp] theorem Xb (a : Rq) (k : Int) : (tX a k).body = a.body:=rfl
def B5 (a : Rq) : Nat:=nL aN a.fields
def qb (a : dm) (k : Int) : dm:=⟨a.status,cG jw aN a.fields (k),a.body⟩
@[simp] theorem Xf (a : dm) (k : Int) : (qb a k).status = a.status:=rfl
@[simp] theorem Xe (a : dm) (k : Int) : (qb a k).body = a.body:=rfl
def Q8 (a : dm) : Nat:=nL aN a.fields
def B3 (a : Ob) (k : Int) : Ob:=⟨a.path,cG cN aO a.names (k),cG cN aO a.values (k + (nL aO a.names : Nat)),qb a.resp (k + (nL aO a.names : Nat) + (nL aO a.values : Nat)),a.t⟩
@[simp] theorem W8 (a : Ob) (k : Int) : (B3 a k).path = a.path:=rfl
@[simp] theorem W9 (a : Ob) (k : Int) : (B3 a k).resp = qb a.resp (k + (nL aO a.names : Nat) + (nL aO a.values : Nat)):=rfl
@[simp] theorem Xa (a : Ob) (k : Int) : (B3 a k).t = a.t:=rfl
def F3 (a : eo) (k : Int) : eo:=⟨cG cN aO a.cells (k),cG Pa Da a.pending (k + (nL aO a.cells : Nat))⟩
def B4 (a : eo) : Nat:=nL aO a.cells + nL Da a.pending
def tY (a : Sh) (k : Int) : Sh:=⟨F3 a.bC (k),cG O7 y8 a.aB (k + (B4 a.bC : Nat)),cG O5 C8 a.aC (k + (B4 a.bC : Nat) + (nL y8 a.aB : Nat)),a.next,a.seq⟩
@[simp] theorem Xg (a : Sh) (k : Int) : (tY a k).bC = F3 a.bC (k):=rfl
@[simp] theorem Xh (a : Sh) (k : Int) : (tY a k).next = a.next:=rfl
@[simp] theorem Xi (a : Sh) (k : Int) : (tY a k).seq = a.seq:=rfl
def B6 (a : Sh) : Nat:=B4 a.bC + nL y8 a.aB + nL C8 a.aC
def F2 (a : Ca) (k : Int) : Ca:=⟨tY a.aE (k),cG O6 y6 a.aW (k + (B6 a.aE : Nat)),a.now,cG O9 C9 a.seen (k + (B6 a.aE : Nat) + (nL y6 a.aW : Nat)),cG O8 J1 a.sent (k + (B6 a.aE : Nat) + (nL y6 a.aW : Nat) + (nL C9 a.seen : Nat))⟩
@[simp] theorem WY (a : Ca) (k : Int) : (F2 a k).aE = tY a.aE (k):=rfl
@[simp] theorem WX (a : Ca) (k : Int) : (F2 a k).now = a.now:=rfl
def qa (a : De) (k : Int) : De:=⟨a.kind,a.client,tX a.q (k),a.a,qb a.resp (k + (B5 a.q : Nat)),a.kW,cG E1 aO a.keep (k + (B5 a.q : Nat) + (Q8 a.resp : Nat))⟩
@[simp] theorem W5 (a : De) (k : Int) : (qa a k).kind = a.kind:=rfl
@[simp] theorem W4 (a : De) (k : Int) : (qa a k).client = a.client:=rfl
@[simp] theorem W6 (a : De) (k : Int) : (qa a k).q = tX a.q (k):=rfl
@[simp] theorem WZ (a : De) (k : Int) : (qa a k).a = a.a:=rfl
@[simp] theorem W7 (a : De) (k : Int) : (qa a k).resp = qb a.resp (k + (B5 a.q : Nat)):=rfl
@[simp] theorem W3 (a : De) (k : Int) : (qa a k).kW = a.kW:=rfl
end M
namespace M
open Go Go.RowKit
theorem kP.cell [B : Bs] {w : World} (h : kP w) {b k : Nat} {v : Value} (hc : B.W0.cell? ⟨b,k,none⟩ = some v) : w.cell? ⟨b,k,none⟩ = some v:=by
 have hb : b < B.W0.heap.size:=by
  rcases Nat.lt_or_ge b B.W0.heap.size with h | h
  ·exact h
  ·simp [World.cell?,Array.getElem?_eq_none h] at hc
 have e:=h b hb
 simpa [World.cell?,e] using hc
theorem Ic (w : World) : Below w.heap.size w w.drew:=(Below.refl _ _).drew
theorem xR {cs : List C} {s c : ByteArray} (h : cs.map C.er = [.str s,.str c]) : cs = [.str s,.str c]:=by
 obtain ⟨a,r,rfl,h1,h2⟩:=map_cons h
 obtain ⟨b,r',rfl,h3,h4⟩:=map_cons h2
 obtain rfl:=map_nil h4
 rw [zn h1,zn h3]
theorem PB {cs : List C} {s : ByteArray} (h : cs.map C.er = [.str s]) : cs = [.str s]:=by
 obtain ⟨a,r,rfl,h1,h2⟩:=map_cons h
 obtain rfl:=map_nil h2
 rw [zn h1]
theorem TC [Bs] {P : Program} {f0 : FuncId} (hc : ∀ (s : ByteArray) (c : UInt8),c.toNat < 128→∀ w,s.size≤9223372036854775807 →
  Calls P f0 #[.string s,.string ⟨#[c]⟩] w fun e w'=>e = .returned (.string ⟨(Lib.trimB s.data.toList c).toArray⟩)∧(w' = w∨w' = w.drew)) : (eY f0 xQ).Sound P :=
 sW fun xs r hg w zl zb cs hx hA hs=>by
  unfold xQ at hg
  split at hg
  ·rename_i s c
   split at hg
   ·rename_i hh
    cases hg
    obtain rfl:=xR hx
    have e : c = ⟨#[32]⟩:=by
     have:=congrArg List.toArray hh.1
     simp at this
     cases c; simp at this; rw [this]
    subst e
    refine (hc s 32 (by decide) w hh.2).mono fun e w' ⟨he,hw⟩=>⟨.str ⟨(dG s.data.toList).toArray⟩,he,rfl,?_,DQ ?_⟩
    ·rcases hw with rfl | rfl
     ·exact Below.refl _ _
     ·exact Ic _
    ·have:=F6 s.data.toList
     have h2:=hh.2
     simp only [ByteArray.size] at h2 ⊢
     simp at this ⊢
     omega
   ·cases hg
  ·cases hg
theorem QS [B : Bs] {P : Program} {f0 : FuncId} {g1 : Nat} {t9 : TypeId} (hm : ∃ m,B.W0.cell? ⟨g1,0,none⟩ = some (.int .i64 m)) (hc : ∀ (s sep : ByteArray) (m : Int) (w : World),s.size < 4294967281→w.cell? ⟨g1,0,none⟩ = some (.int .i64 m)→1≤sep.size →
  Calls P f0 #[.string s,.string sep] w fun e w'=>e = .returned (.slice (some ⟨w.heap.size,0,none⟩) (Lib.countB s sep + 1) (Lib.countB s sep + 1))∧w' = w.alloc (.cells ((Lib.splitB sep 0 (Lib.countB s sep) s).map Value.string).toArray t9)) : (eY f0 xH).Sound P :=
 sW fun xs r hg w zl zb cs hx hA hs=>by
  unfold xH at hg
  split at hg
  ·rename_i s c
   split at hg
   ·rename_i hh
    cases hg
    obtain rfl:=xR hx
    obtain ⟨m,hm⟩:=hm
    have hlen:=Lib.splitB_all c hh.2 0 _ s rfl
    have El:=Lib.splitB_data c 0 (Lib.countB s c) s
    refine (hc s c m w hh.1 (hs.cell hm) hh.2).mono fun e w' ⟨he,hw⟩=>?_
    subst hw
    refine ⟨.row .own 1 (some (w.heap.size,0,none)) (Lib.splitB c 0 (Lib.countB s c) s).length (Lib.splitB c 0 (Lib.countB s c) s).length fun i _=>.str ((Lib.splitB c 0 (Lib.countB s c) s).getD i ByteArray.empty),?_,?_,?_,?_⟩
    ·rw [he,hlen]; rfl
    ·rw [QC]
     unfold BC
     congr 1
     have : Lib.split s.data.toList c.data.toList = (Lib.splitB c 0 (Lib.countB s c) s).map (·.data.toList):=El.symm
     rw [this,List.map_map]
     refine List.map_congr_left fun x _=>?_
     simp
    ·exact (Below.refl _ _).alloc (Nat.le_refl _) _
    ·refine Na (Nat.le_refl _) (t:=t9) ?_ fun x hx=>?_
     ·show (w.heap.push _)[w.heap.size]? = _
      simp
     ·have h1 : x.data.toList∈Lib.splitK c.data.toList 0 (Lib.countB s c) s.data.toList:=by rw [← El]; exact List.mem_map_of_mem hx
      have h2 : ∀ (k : Nat) (l : List UInt8),∀ y∈Lib.splitK c.data.toList 0 k l,y.length≤l.length:=by
       intro k
       induction k with
       | zero=>intro l y hy; simp [Lib.splitK] at hy; rw [hy]; exact Nat.le_refl _
       | succ k ih =>
        intro l y hy
        unfold Lib.splitK at hy
        split at hy
        ·rw [List.mem_singleton.1 hy]; exact Nat.le_refl _
        ·rcases List.mem_cons.1 hy with rfl | hy
         ·simp
          omega
         ·have:=ih _ _ hy; simp at this; omega
      have h3:=h2 _ _ _ h1
      have h4:=hh.1
      have e1 : s.size = s.data.toList.length:=Lib.size_eq _
      have e2 : x.size = x.data.toList.length:=Lib.size_eq _
      omega
   ·cases hg
  ·cases hg
theorem Pn [B : Bs] {P : Program} {f0 : FuncId} (hc : ∀ (s : ByteArray) (w : World),kP w→s.size≤9223372036854775807 →
  Calls P f0 #[.string s] w fun e w'=>e = .returned (.tuple #[.int .i64 (((cO s.data.toList).getD 0 : Nat) : Int),.bool (cO s.data.toList).isSome])∧Below w.heap.size w w') : (eY f0 w5).Sound P :=
 sW fun xs r hg w zl zb cs hx hA hs=>by
  unfold w5 at hg
  split at hg
  ·rename_i s
   split at hg
   ·rename_i hh
    cases hg
    obtain rfl:=PB hx
    refine (hc s w hs hh).mono fun e w' ⟨he,hw⟩=>?_
    refine ⟨tZ [.int .i64 (((cO s.data.toList).getD 0 : Nat) : Int),.bool (cO s.data.toList).isSome],?_,?_,hw,DR fun x hx=>?_⟩
    ·rw [he,F9]; rfl
    ·rw [F8]; cases cO s.data.toList <;> rfl
    ·simp only [List.mem_cons,List.not_mem_nil,or_false] at hx
     rcases hx with rfl | rfl
     ·exact ⟨M9,trivial,fun _ _ h=>h⟩
     ·exact ⟨zB,trivial,fun _ _ h=>h⟩
   ·cases hg
  ·cases hg
end M
namespace Go.Proofs
open Go.RowKit
theorem Q4 {P : Program} {w w' : World} {n : String} {k : IntKind} {zs : List Int} (h : Lib.TabIs P w n k zs) (hw : Below w.heap.size w w') : Lib.TabIs P w' n k zs:=by
 unfold Lib.TabIs World.var? at h ⊢
 cases hg : P.globalNamed n with
 | none=>rw [hg] at h; cases h
 | some g =>
  rw [hg] at h
  simp only [Option.bind_some] at h ⊢
  have hlt : g < w.heap.size:=by
   rcases Nat.lt_or_ge g w.heap.size with h' | h'
   ·exact h'
   ·rw [Array.getElem?_eq_none h'] at h; cases h
  rw [hw.block g hlt]
  exact h
theorem Gg [B : M.Bs] {P : Program} {w : World} {n : String} {cs : Array Value} (h : B.W0.var? P n = some cs) (hw : M.kP w) : w.var? P n = some cs:=by
 unfold World.var? at h ⊢
 cases hg : P.globalNamed n with
 | none=>rw [hg] at h; cases h
 | some g =>
  rw [hg] at h
  simp only [Option.bind_some] at h ⊢
  have hlt : g < B.W0.heap.size:=by
   rcases Nat.lt_or_ge g B.W0.heap.size with h' | h'
   ·exact h'
   ·rw [Array.getElem?_eq_none h'] at h; cases h
  rw [hw g hlt]
  exact h
theorem Nh (w : World) (k : Nat) (os : Array Obj) : Below w.heap.size w (Sort.grow (w.drewN k) os) :=
 ⟨rfl,rfl,rfl,by simp [Sort.grow,World.drewN],fun b hb=>by show (w.heap ++ os)[b]? = w.heap[b]?; exact Array.getElem?_append_left hb⟩
def jx (v : Int) (l : List UInt8) : Bool:=decide (0≤v∧v≤1000000∧Lib.itoa v = l)
def pK (v : Int) (l : List UInt8) : Int:=if jx v l = true then v else 0
theorem Pk {P : Program} {f a : FuncId} {s : ByteArray} {w : World} (hmax : s.size≤9223372036854775807)
  (NV : 7 < s.size→Calls P f #[.string s] w fun e w'=>e = .returned (.tuple #[.int .i64 0,.bool false])∧w' = w)
  (hok : ¬ 7 < s.size→∀ v,Lib.atoiAll s.data.toList = .ok v→Calls P f #[.string s] w fun e w'=>e = .returned (.tuple #[.int .i64 (pK v s.data.toList),.bool (jx v s.data.toList)])∧Below w.heap.size w w')
  (Nz : ¬ 7 < s.size→(∀ v,Lib.atoiAll s.data.toList≠.ok v)→Calls P f #[.string s] w fun e w'=>e = .returned (.tuple #[.int .i64 0,.bool false])∧Below w.heap.size w w') :
  Calls P f #[.string s] w fun e w'=>e = .returned (.tuple #[.int .i64 (((M.cO s.data.toList).getD 0 : Nat) : Int),.bool (M.cO s.data.toList).isSome])∧Below w.heap.size w w':=by
 have hl : s.size = s.data.toList.length:=Lib.size_eq _
 by_cases h : 7 < s.size
 ·rw [M.E8 _ (by omega)]
  exact (NV h).mono fun e w' ⟨he,hw⟩=>⟨he,hw ▸ Below.refl _ _⟩
 by_cases hv : ∃ v,Lib.atoiAll s.data.toList = .ok v
 ·obtain ⟨v,hv⟩:=hv
  rw [← M.Po _ _ hv]
  refine (hok h v hv).mono fun e w' ⟨he,hw⟩=>⟨?_,hw⟩
  rw [he]
  by_cases hb : jx v s.data.toList = true
  ·have hb':=hb
   unfold jx at hb'
   rw [decide_eq_true_eq] at hb'
   rw [pK,if_pos hb,hb,if_pos hb']
   simp; omega
  ·have hb':=hb
   unfold jx at hb'
   rw [decide_eq_true_eq] at hb'
   rw [pK,if_neg hb,if_neg hb']
   simp [hb]
 ·have cX : ∀ v,Lib.atoiAll s.data.toList≠.ok v:=fun v e=>hv ⟨v,e⟩
  rw [M.Pq _ cX]
  exact Nz h cX
theorem WL {H : Type} {enc : TypeId×Value→H} {a : Assume} {C : Checked} {os : Os} {f : FuncId} {fn : Func} {s : ChangeSpec} {conds : List PathCond} {apart fresh handsOn again : Bool} {X : World→Array Value→Prop}
  (hX : ∀ (w w' : World) (args : Array Value),w.heap = w'.heap→X w args→X w' args)
  (own : ownKnob C.prog.godebug = none) (started : os.Started) (noInit : C.prog.inits.idxOf? f = none) (hfn : C.prog.funcs[f]? = some fn)
  (witness : ∃ (w : World) (tape : Tape) (i : Input),w.os = os∧(w.forCall tape i).Shaped C.prog∧i.vars = []∧Input.okWide C.prog (w.forCall tape i) .any w.heap.size f i ∧
   ((s.pre enc C.prog fn conds apart (w.forCall tape i).memory i.args∧X (w.forCall tape i).memory i.args)∧sizedMet enc C.prog fn (OpenSpec.ofChange s) apart (w.forCall tape i).memory i.args)∧a.holds C.prog (lone (Frame.enter C.prog f i.args .normal) [] (w.forCall tape i)))
  (contract : ∀ (W : World) (base : Nat) (args : Array Value) (ds gs : List (DataW H)) (before : List MemPlace),
   (∀ (j : Nat) t v,fn.params[j]? = some t→args[j]? = some v→Value.okWide C.prog W .any base t v) →
   DataW.Whole enc C.prog fn.params.toList s.vars apart W args.toList ds gs before →
   conds.all (PathCond.test C.prog ⟨fn.params.toList,ds,s.plain.varTypes C.prog,gs⟩) = true →
   (DataW.weightsEach C.prog (fn.params.toList ++ s.plain.varTypes C.prog) (ds ++ gs)).all (·≤reachBytes) = true→X W args →
   W.ShapedOpen C.prog →
   a.holds C.prog (lone (Frame.enter C.prog f args .normal) [] W) →
   Calls C.prog f args W fun e W'=>∃ v,e = .returned v∧s.post enc C.prog fn apart fresh handsOn again W args v W') :
  ReturnsInHanded a C os f .any (fun w args=>(s.pre enc C.prog fn conds apart w args∧X w args)∧sizedMet enc C.prog fn (OpenSpec.ofChange s) apart w args) (s.post enc C.prog fn apart fresh handsOn again):=by
 refine returnsInHanded_of_calls own started noInit witness ?_
 intro w tape i _ hsh _ hok hpre hholds
 obtain ⟨_,_,_,fn',NN,_,_,_,_,hval⟩:=hok
 have e : fn' = fn:=Option.some.inj (NN.symm.trans hfn)
 subst e
 obtain ⟨⟨⟨ds,gs,before,hw,hc⟩,hx⟩,hz⟩:=hpre
 have hw':=DataW.Whole.of_heap (w':=w.forCall tape i) (by rfl) hw
 refine (contract (w.forCall tape i) w.heap.size i.args ds gs before hval hw' hc (hz.weights hw) (hX _ _ _ (by rfl) hx) hsh hholds).mono fun e W' ⟨v,he,hp⟩=>?_
 subst he
 exact ChangeSpec.post_blind hp
end Go.Proofs
namespace M
open Go Go.RowKit
theorem TD (s c : ah) : (Lib.trimPrefix s c).length≤s.length:=by
 unfold Lib.trimPrefix
 split
 ·simp
 ·exact Nat.le_refl _
theorem Ke [B : Bs] {P : Program} {f0 : FuncId} (hc : ∀ (s p : ByteArray) (w : World),
  Calls P f0 #[.string s,.string p] w fun e w'=>e = .returned (.tuple #[.string ⟨(Lib.trimPrefix s.data.toList p.data.toList).toArray⟩,.bool (Lib.hasPrefix s.data.toList p.data.toList)])∧w' = w) : (eY f0 uL).Sound P :=
 sW fun xs r hg w zl zb cs hx hA hs=>by
  unfold uL at hg
  split at hg
  ·rename_i s c
   split at hg
   ·rename_i hh
    cases hg
    obtain rfl:=xR hx
    have hl:=TD s.data.toList c.data.toList
    refine (hc s c w).mono fun e w' ⟨he,hw⟩=>?_
    subst hw
    refine ⟨tZ [.str ⟨(Lib.trimPrefix s.data.toList c.data.toList).toArray⟩,.bool (Lib.hasPrefix s.data.toList c.data.toList)],?_,?_,Below.refl _ _,DR fun x hx=>?_⟩
    ·rw [he,F9]; rfl
    ·rw [F8]; rfl
    ·have e1 : s.size = s.data.toList.length:=Lib.size_eq _
     simp only [List.mem_cons,List.not_mem_nil,or_false] at hx
     rcases hx with rfl | rfl
     ·exact ⟨DQ (by simp only [ByteArray.size,List.size_toArray]; omega),trivial,fun _ _ h=>h⟩
     ·exact ⟨zB,trivial,fun _ _ h=>h⟩
   ·cases hg
  ·cases hg
end M
namespace M
open Go Go.RowKit
theorem Nx [B : Bs] {P : Program} {f0 : FuncId} (hc : ∀ (s p : ByteArray) (w : World),
  Calls P f0 #[.string s,.string p] w fun e w'=>e = .returned (.bool (Lib.hasPrefix s.data.toList p.data.toList))∧w' = w) : (eY f0 ve).Sound P :=
 sW fun xs r hg w zl zb cs hx hA hs=>by
  unfold ve at hg
  split at hg
  ·rename_i s c
   cases hg
   obtain rfl:=xR hx
   refine (hc s c w).mono fun e w' ⟨he,hw⟩=>?_
   subst hw
   exact ⟨.bool (Lib.hasPrefix s.data.toList c.data.toList),he,rfl,Below.refl _ _,zB⟩
  ·cases hg
end M
namespace M
open Go
theorem Gi {α : Type} (w : α→Nat) (l : List α) (n : Nat) : wL w (l.take n)≤wL w l:=by
 have h : l = l.take n ++ l.drop n:=(List.take_append_drop n l).symm
 have h1:=congrArg List.length h
 have h2:=congrArg (fun l=>(l.map w).sum) h
 simp only [List.length_append] at h1
 simp only [List.map_append,List.sum_append] at h2
 unfold wL
 omega
end M
