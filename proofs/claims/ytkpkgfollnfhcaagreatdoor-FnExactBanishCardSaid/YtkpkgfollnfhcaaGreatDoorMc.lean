/- A machine of values for loaded Go functions, sound for the calculus of calls; part 3; no conditions. -/
import Derived.Test.YtkpkgfollnfhcaaGreatDoorMb
import Derived.Sort.Grow
import Derived.Deep.Draws
import Derived.Lib.LaidTab
import Derived.MakeChecks
import Derived.Laws.BitsLemmas
import Derived.ChangeArms
import Derived.ChangeReads
import Derived.ChangeOld
import Derived.ChangeShapes
import Derived.SizedLaws
import Derived.RowKit
import Derived.Below
import Derived.Lib.ItoaNum
import Derived.Lib.TrimByte
import Derived.Lib.AtoiAllCases
import Derived.Lib.SplitLaws
import Derived.Lib.Join
import Derived.Lib.IndexMore
import Derived.HandedShaped
import Derived.Lib.Strings
import Derived.Lib.Slices
import Derived.Lib.Walk
import Derived.Stop.LaidErr
set_option linter.unusedSectionVars false
set_option linter.unusedVariables false
set_option linter.unusedSimpArgs false
namespace M
open Go
section
variable {C C' : bz} {ok : FuncId→Bool}
theorem Ru {C : bz} {d : Option Nat} {s s' : ag} {f : FuncId} {xs : List X} (h : kK d s (C f xs) = some s') : ∃ o,C f xs = some o∧∀ C' : bz,C' f xs = some o→kK d s (C' f xs) = some s':=by
 cases ho : C f xs with
 | none=>rw [ho] at h; cases h
 | some o=>rw [ho] at h; exact ⟨o,rfl,fun C' h'=>by rw [h']; exact h⟩
theorem Rt {C : bz} {d : Option Nat} {as : List (AV×PM)} {back : qb} {s' : ag} {f : FuncId} {xs : List X} (h : nF d as back (C f xs) = some s') : ∃ o,C f xs = some o∧∀ C' : bz,C' f xs = some o→nF d as back (C' f xs) = some s':=by
 cases ho : C f xs with
 | none=>rw [ho] at h; cases h
 | some o=>rw [ho] at h; exact ⟨o,rfl,fun C' h'=>by rw [h']; exact h⟩
theorem DN {f : FuncId} {d : Option Nat} {as : List (AV×PM)} {fv : Option AV} {s s' : ag} (h : lg C f d as fv s = some s') :
  ∃ xs o,C f xs = some o∧∀ C' : bz,C' f xs = some o→lg C' f d as fv s = some s':=by
 unfold lg at h ⊢
 by_cases hb : X.bare.eJ (bl as s).1 = true
 ·simp only [if_pos hb] at h ⊢
  cases hm : cx as with
  | none =>
   simp only [hm] at h ⊢
   by_cases hc : og (bl as s).2 fv f = true
   ·simp only [if_pos hc] at h ⊢
    obtain ⟨o,h1,h2⟩:=Ru h
    exact ⟨_,o,h1,h2⟩
   ·simp only [if_neg hc] at h; cases h
  | some xn =>
   obtain ⟨x,n⟩:=xn
   simp only [hm] at h ⊢
   unfold od at h ⊢
   split at h
   ·split at h
    ·rename_i y back h1 h2
     simp only [h1,if_pos h2]
     obtain ⟨o,h1,h2⟩:=Rt h
     exact ⟨_,o,h1,h2⟩
    ·cases h
   ·cases h
 ·simp only [if_neg hb] at h; cases h
theorem Ep {o : bw} {s s' : ag} (h : bK C ok o s = some s') : (∀ C' : bz,bK C' ok o s = some s')∨∃ f xs r,C f xs = some r∧∀ C' : bz,C' f xs = some r→bK C' ok o s = some s':=by
 cases o with
 | call d f as =>
  obtain ⟨xs,o,h1,h2⟩:=DN (C:=C) h
  exact .inr ⟨f,xs,o,h1,h2⟩
 | iN d x as =>
  simp only [bK] at h ⊢
  split at h
  ·rename_i f caps hf
   split at h
   ·rename_i hok
    obtain ⟨xs,o,h1,h2⟩:=DN (C:=C) h
    refine .inr ⟨f,xs,o,h1,fun C' h'=>?_⟩
    simp only [if_pos hok]
    exact h2 C' h'
   ·cases h
  ·cases h
 | iM d f x as =>
  simp only [bK] at h ⊢
  split at h
  ·rename_i cs h1
   split at h
   ·rename_i h2
    simp only [if_pos h2]
    refine .inr ?_
    cases ho : C f (.agg (bn cs s).1 :: dy (bn cs s).2 .dead as (as.map fun _=>.dead)) with
    | none=>rw [ho] at h; cases h
    | some r=>rw [ho] at h; exact ⟨f,_,r,ho,fun C' h'=>by rw [h']; exact h⟩
   ·cases h
  ·cases h
 | _=>exact .inl fun _=>h
theorem El {g : G} {s s' : ag} (h : eG C ok g s = some s') : (∀ C' : bz,eG C' ok g s = some s')∨∃ f xs r,C f xs = some r∧∀ C' : bz,C' f xs = some r→eG C' ok g s = some s':=by
 obtain ⟨gg,o⟩:=g
 cases gg with
 | none=>exact Ep h
 | some tb =>
  obtain ⟨t,b⟩:=tb
  simp only [eG] at h ⊢
  split at h
  ·rename_i v hv
   split at h
   ·rename_i h1
    simp only [hv,if_pos h1]
    exact Ep h
   ·rename_i h1
    simp only [hv,if_neg h1]
    exact .inl fun _=>h
  ·exact .inl fun _=>h
  ·cases h
def bz.le (C C' : bz) : Prop:=∀ f xs o,C f xs = some o→C' f xs = some o
theorem En (hl : C.le C') {g : G} {s s' : ag} (h : eG C ok g s = some s') : eG C' ok g s = some s':=by
 rcases El h with h | ⟨f,xs,r,h1,h2⟩
 ·exact h _
 ·exact h2 _ (hl _ _ _ h1)
theorem zv (hl : C.le C') : ∀ {l : List G} {s s' : ag},fL C ok l s = some s'→fL C' ok l s = some s'
 | [],_,_,h=>h
 | g :: l,s,s',h=>by
  simp only [fL] at h ⊢
  cases h1 : eG C ok g s with
  | none=>rw [h1] at h; cases h
  | some s1=>rw [h1] at h; rw [En hl h1]; exact zv hl h
theorem oo (hl : C.le C') : ∀ {t : DT} {s s' : ag},eD C ok t s = some s'→eD C' ok t s = some s'
 | .nil _,_,_,h=>h
 | .step _ g l,s,s',h=>by
  simp only [eD] at h ⊢
  cases h1 : eG C ok g s with
  | none=>rw [h1] at h; cases h
  | some s1=>rw [h1] at h; rw [En hl h1]; exact oo hl h
 | .alt a b,s,s',h=>by
  simp only [eD] at h ⊢
  unfold same at h
  split at h
  ·rename_i x y hx hy
   rw [oo hl hx,oo hl hy]
   exact h
  ·cases h
 | .kp _ t,s,s',h=>oo (t:=t) hl h
theorem yl {k k' : ag→bH} {r r' : bH} {o : Ex×ag} (h : cT k r = some o) (hr : ∀ x,r = some x→r' = some x) (hk : ∀ s,k s = some o→k' s = some o) : cT k' r' = some o:=by
 unfold cT at h
 split at h
 ·rw [hr _ rfl]; exact hk _ h
 ·rw [hr _ rfl]; exact h
 ·rw [hr _ rfl]; exact h
 ·cases h
theorem oJ {f f' : ag→bH} (hf : ∀ s o,f s = some o→f' s = some o) : ∀ {n m : Nat} {s : ag} {o : Ex×ag},n≤m→iter f n s = some o→iter f' m s = some o
 | 0,_,_,_,_,h=>by cases h
 | n + 1,0,_,_,hn,_=>by omega
 | n + 1,m + 1,s,o,hn,h=>yl h (hf s) fun s' h'=>oJ hf (by omega) h'
end
noncomputable def aK (f : ag→bH) (s : ag) : bH:=by
 classical exact if h : ∃ o : Ex×ag,∃ n,iter f n s = some o then some (Classical.choose h) else none
theorem sO {f : ag→bH} {s : ag} {o : Ex×ag} {n : Nat} (h : iter f n s = some o) : aK f s = some o:=by
 have hh : ∃ o : Ex×ag,∃ n,iter f n s = some o:=⟨o,n,h⟩
 unfold aK
 rw [dif_pos hh]
 obtain ⟨m,hm⟩:=Classical.choose_spec hh
 have h1:=oJ (fun _ _ h=>h) (Nat.le_max_left m n) hm
 have h2:=oJ (fun _ _ h=>h) (Nat.le_max_right m n) h
 rw [h1] at h2
 exact h2
theorem BB {f : ag→bH} {s : ag} {o : Ex×ag} (h : aK f s = some o) : ∃ n,iter f n s = some o:=by
 unfold aK at h
 split at h
 ·rename_i hh
  cases h
  exact Classical.choose_spec hh
 ·cases h
theorem BP {α : Type} {a b : Option α} (h1 : ∀ x,a = some x→b = some x) (h2 : ∀ x,b = some x→a = some x) : a = b:=by
 cases a with
 | none=>cases b with
  | none=>rfl
  | some y=>exact h2 y rfl
 | some x=>exact (h1 x rfl).symm
theorem gP (f : ag→bH) (s : ag) : aK f s = cT (aK f) (f s):=by
 refine BP (fun o h=>?_) fun o h=>?_
 ·obtain ⟨n,hn⟩:=BB h
  cases n with
  | zero=>cases hn
  | succ n=>exact yl hn (fun _ h=>h) fun s' h'=>sO h'
 ·unfold cT at h
  split at h
  ·rename_i s' hs
   obtain ⟨n,hn⟩:=BB h
   refine sO (n:=n + 1) ?_
   simp only [iter,hs,cT]; exact hn
  ·rename_i hs; refine sO (n:=1) ?_; simp only [iter,hs,cT]; exact h
  ·rename_i hs; refine sO (n:=1) ?_; simp only [iter,hs,cT]; exact h
  ·cases h
noncomputable def ai (C : bz) (ok : FuncId→Bool) : A→ag→bH
 | .skip,s=>some (.normal,s)
 | .ret,s=>some (.ret,s)
 | .exit id,s=>some (.exit id,s)
 | .ops l,s=>eu (fL C ok l s)
 | .draw t,s=>eu (eD C ok t s)
 | .seq a b,s=>cT (ai C ok b) (ai C ok a s)
 | .cond c a b,s=>match aj s c with
  | .bool t=>if t = true then ai C ok a s else ai C ok b s
  | _=>none
 | .block id b,s=>gF id (ai C ok b s)
 | .loop b,s=>aK (ai C ok b) s
 | .pk ks b,s=>gU ks (ai C ok b s)
theorem xe {a b : Option ag} (h : ∀ s,a = some s→b = some s) {o : Ex×ag} (ho : eu a = some o) : eu b = some o:=by
 unfold eu at ho
 split at ho
 ·rw [h _ rfl]; exact ho
 ·cases ho
theorem Dq {id : Nat} {a b : bH} (h : ∀ s,a = some s→b = some s) {o : Ex×ag} (ho : gF id a = some o) : gF id b = some o:=by
 cases a with
 | none=>cases ho
 | some x=>rw [h _ rfl]; exact ho
theorem Gk {ks : List Nat} {a b : bH} (h : ∀ s,a = some s→b = some s) {o : Ex×ag} (ho : gU ks a = some o) : gU ks b = some o:=by
 cases a with
 | none=>cases ho
 | some x=>rw [h _ rfl]; exact ho
theorem LA {C C' : bz} {ok : FuncId→Bool} (hl : C.le C') {N : Nat} : ∀ {t : A} {s : ag} {o : Ex×ag},eA C ok N t s = some o→ai C' ok t s = some o:=by
 intro t
 induction t with
 | skip=>intro s o h; exact h
 | ret=>intro s o h; exact h
 | exit id=>intro s o h; exact h
 | ops l=>intro s o h; exact xe (fun s' h'=>zv hl h') h
 | draw l=>intro s o h; exact xe (fun s' h'=>oo hl h') h
 | seq a b ep fS=>intro s o h; exact yl h (fun x hx=>ep hx) fun s' h'=>fS h'
 | cond c a b ep fS =>
  intro s o h
  simp only [eA] at h
  simp only [ai]
  split at h
  ·rename_i t ht
   try rw [ht]
   cases t with
   | true=>exact ep h
   | false=>exact fS h
  ·cases h
 | block id b ih=>intro s o h; exact Dq (fun x hx=>ih hx) h
 | loop b ih=>intro s o h; exact sO (oJ (fun s o h=>ih h) (Nat.le_refl _) h)
 | pk ks b ih=>intro s o h; exact Gk (fun x hx=>ih hx) h
theorem LB {C C' : bz} {ok : FuncId→Bool} (hl : C.le C') {N N' : Nat} (hN : N≤N') : ∀ {t : A} {s : ag} {o : Ex×ag},eA C ok N t s = some o→eA C' ok N' t s = some o:=by
 intro t
 induction t with
 | skip=>intro s o h; exact h
 | ret=>intro s o h; exact h
 | exit id=>intro s o h; exact h
 | ops l=>intro s o h; exact xe (fun s' h'=>zv hl h') h
 | draw l=>intro s o h; exact xe (fun s' h'=>oo hl h') h
 | seq a b ep fS=>intro s o h; exact yl h (fun x hx=>ep hx) fun s' h'=>fS h'
 | cond c a b ep fS =>
  intro s o h
  simp only [eA] at h ⊢
  split at h
  ·rename_i t ht
   cases t with
   | true=>exact ep h
   | false=>exact fS h
  ·cases h
 | block id b ih=>intro s o h; exact Dq (fun x hx=>ih hx) h
 | loop b ih=>intro s o h; exact oJ (fun s o h=>ih h) hN h
 | pk ks b ih=>intro s o h; exact Gk (fun x hx=>ih hx) h
theorem uX {L : bz} {T : ff} : ∀ {n m : Nat},n≤m→(exec L T n).le (exec L T m)
 | 0,_,_,_,_,_,h=>by cases h
 | n + 1,0,hn,_,_,_,_=>by omega
 | n + 1,m + 1,hn,f,xs,o,h=>by
  have hnm : n≤m:=by omega
  simp only [exec] at h ⊢
  split at h
  ·rename_i F hF
   unfold eF at h ⊢
   split at h
   ·rename_i hl
    rw [if_pos hl]
    cases hr : eA (exec L T n) (ak T) n F.body (iL xs) with
    | none=>rw [hr] at h; cases h
    | some r=>rw [hr] at h; rw [LB (uX hnm) hnm hr]; exact h
   ·cases h
  ·exact h
noncomputable def ev (L : bz) (T : ff) : bz:=fun f xs=>by
 classical exact if h : ∃ o : Out,∃ n,exec L T n f xs = some o then some (Classical.choose h) else none
theorem zx {L : bz} {T : ff} {f : FuncId} {xs : List X} {o : Out} {n : Nat} (h : exec L T n f xs = some o) : ev L T f xs = some o:=by
 have hh : ∃ o : Out,∃ n,exec L T n f xs = some o:=⟨o,n,h⟩
 unfold ev
 rw [dif_pos hh]
 obtain ⟨m,hm⟩:=Classical.choose_spec hh
 have h1:=uX (Nat.le_max_left m n) f xs _ hm
 have h2:=uX (Nat.le_max_right m n) f xs _ h
 rw [h1] at h2
 exact h2
theorem uV {L : bz} {T : ff} {f : FuncId} {xs : List X} {o : Out} (h : ev L T f xs = some o) : ∃ n,exec L T n f xs = some o:=by
 unfold ev at h
 split at h
 ·rename_i hh
  cases h
  exact Classical.choose_spec hh
 ·cases h
theorem LJ (L : bz) (T : ff) (n : Nat) : (exec L T n).le (ev L T):=fun _ _ _ h=>zx h
theorem WT [Bs] {P : Program} {L : bz} {T : ff} (hL : L.Sound P) (hT : T.Ok P) : (ev L T).Sound P:=fun f xs o h=>by
 obtain ⟨n,hn⟩:=uV h
 exact EB hL hT n f xs o hn
section
variable {L : bz} {T : ff}
theorem Em {g : G} {s s' : ag} (h : eG (ev L T) (ak T) g s = some s') : ∃ n,∀ m,n≤m→eG (exec L T m) (ak T) g s = some s':=by
 rcases El h with h | ⟨f,xs,r,h1,h2⟩
 ·exact ⟨0,fun m _=>h _⟩
 ·obtain ⟨n,hn⟩:=uV h1
  exact ⟨n,fun m hm=>h2 _ (uX hm f xs r hn)⟩
theorem Es : ∀ {l : List G} {s s' : ag},fL (ev L T) (ak T) l s = some s'→∃ n,∀ m,n≤m→fL (exec L T m) (ak T) l s = some s'
 | [],s,s',h=>⟨0,fun m _=>h⟩
 | g :: l,s,s',h=>by
  simp only [fL] at h ⊢
  cases h1 : eG (ev L T) (ak T) g s with
  | none=>rw [h1] at h; cases h
  | some s1 =>
   rw [h1] at h
   obtain ⟨n1,eM⟩:=Em h1
   obtain ⟨n2,hn2⟩:=Es (l:=l) h
   exact ⟨max n1 n2,fun m hm=>by rw [eM m (by omega)]; exact hn2 m (by omega)⟩
theorem qA : ∀ {l : DT} {s s' : ag},eD (ev L T) (ak T) l s = some s'→∃ n,∀ m,n≤m→eD (exec L T m) (ak T) l s = some s'
 | .nil _,s,s',h=>⟨0,fun m _=>h⟩
 | .step _ g l,s,s',h=>by
  simp only [eD] at h ⊢
  cases h1 : eG (ev L T) (ak T) g s with
  | none=>rw [h1] at h; cases h
  | some s1 =>
   rw [h1] at h
   obtain ⟨n1,eM⟩:=Em h1
   obtain ⟨n2,hn2⟩:=qA (l:=l) h
   exact ⟨max n1 n2,fun m hm=>by rw [eM m (by omega)]; exact hn2 m (by omega)⟩
 | .alt a b,s,s',h=>by
  simp only [eD] at h ⊢
  unfold same at h
  split at h
  ·rename_i x y hx hy
   obtain ⟨n1,eM⟩:=qA hx
   obtain ⟨n2,hn2⟩:=qA hy
   exact ⟨max n1 n2,fun m hm=>by rw [eM m (by omega),hn2 m (by omega)]; exact h⟩
  ·cases h
 | .kp _ t,s,s',h=>qA (l:=t) h
theorem F8 {a : Option ag} {b : Nat→Option ag} (h : ∀ s,a = some s→∃ n,∀ m,n≤m→b m = some s) {o : Ex×ag} (ho : eu a = some o) : ∃ n,∀ m,n≤m→eu (b m) = some o:=by
 cases a with
 | none=>cases ho
 | some s =>
  obtain ⟨n,hn⟩:=h s rfl
  exact ⟨n,fun m hm=>by rw [hn m hm]; exact ho⟩
theorem LG : ∀ {t : A} {s : ag} {o : Ex×ag},ai (ev L T) (ak T) t s = some o→∃ n,∀ m,n≤m→eA (exec L T m) (ak T) m t s = some o:=by
 intro t
 induction t with
 | skip=>intro s o h; exact ⟨0,fun m _=>h⟩
 | ret=>intro s o h; exact ⟨0,fun m _=>h⟩
 | exit id=>intro s o h; exact ⟨0,fun m _=>h⟩
 | ops l=>intro s o h; exact F8 (fun s h=>Es h) h
 | draw l=>intro s o h; exact F8 (fun s h=>qA h) h
 | seq a b ep fS =>
  intro s o h
  simp only [ai] at h
  simp only [eA]
  cases hr : ai (ev L T) (ak T) a s with
  | none=>rw [hr] at h; cases h
  | some r =>
   rw [hr] at h
   obtain ⟨n1,eM⟩:=ep hr
   obtain ⟨e,s1⟩:=r
   cases e with
   | normal =>
    obtain ⟨n2,hn2⟩:=fS (s:=s1) h
    exact ⟨max n1 n2,fun m hm=>by rw [eM m (by omega)]; exact hn2 m (by omega)⟩
   | exit i=>exact ⟨n1,fun m hm=>by rw [eM m hm]; exact h⟩
   | ret=>exact ⟨n1,fun m hm=>by rw [eM m hm]; exact h⟩
 | cond c a b ep fS =>
  intro s o h
  simp only [ai] at h
  simp only [eA]
  split at h
  ·rename_i t ht
   try rw [ht]
   cases t with
   | true=>exact ep h
   | false=>exact fS h
  ·cases h
 | block id b ih =>
  intro s o h
  simp only [ai] at h
  simp only [eA]
  cases hr : ai (ev L T) (ak T) b s with
  | none=>rw [hr] at h; cases h
  | some r =>
   rw [hr] at h
   obtain ⟨n1,eM⟩:=ih hr
   exact ⟨n1,fun m hm=>by rw [eM m hm]; exact h⟩
 | pk ks b ih =>
  intro s o h
  simp only [ai] at h
  simp only [eA]
  cases hr : ai (ev L T) (ak T) b s with
  | none=>rw [hr] at h; cases h
  | some r =>
   rw [hr] at h
   obtain ⟨n1,eM⟩:=ih hr
   exact ⟨n1,fun m hm=>by rw [eM m hm]; exact h⟩
 | loop b ih =>
  intro s o h
  simp only [ai] at h
  obtain ⟨n,hn⟩:=BB h
  have go : ∀ (n : Nat) (s : ag),iter (ai (ev L T) (ak T) b) n s = some o→∃ k,∀ m,k≤m→iter (eA (exec L T m) (ak T) m b) n s = some o:=by
   intro n
   induction n with
   | zero=>intro s h; cases h
   | succ n ihn =>
    intro s h
    simp only [iter] at h ⊢
    cases hr : ai (ev L T) (ak T) b s with
    | none=>rw [hr] at h; cases h
    | some r =>
     rw [hr] at h
     obtain ⟨n1,eM⟩:=ih hr
     obtain ⟨e,s1⟩:=r
     cases e with
     | normal =>
      obtain ⟨n2,hn2⟩:=ihn s1 h
      exact ⟨max n1 n2,fun m hm=>by rw [eM m (by omega)]; exact hn2 m (by omega)⟩
     | exit i=>exact ⟨n1,fun m hm=>by rw [eM m hm]; exact h⟩
     | ret=>exact ⟨n1,fun m hm=>by rw [eM m hm]; exact h⟩
  obtain ⟨k,hk⟩:=go n s hn
  refine ⟨max k n,fun m hm=>?_⟩
  simp only [eA]
  exact oJ (fun _ _ h=>h) (by omega) (hk m (by omega))
noncomputable def uU (L : bz) (T : ff) (F : Fn) (xs : List X) : Option Out :=
 if xs.length = F.n then fin F (ai (ev L T) (ak T) F.body (iL xs)) else none
theorem LH {f : FuncId} {F : Fn} (hF : T f = some F) (xs : List X) : ev L T f xs = uU L T F xs:=by
 refine BP (fun o h=>?_) fun o h=>?_
 ·obtain ⟨n,hn⟩:=uV h
  cases n with
  | zero=>cases hn
  | succ n =>
   simp only [exec,hF] at hn
   unfold eF at hn
   unfold uU
   split at hn
   ·rename_i hl
    rw [if_pos hl]
    cases hr : eA (exec L T n) (ak T) n F.body (iL xs) with
    | none=>rw [hr] at hn; cases hn
    | some r=>rw [hr] at hn; rw [LA (LJ L T n) hr]; exact hn
   ·cases hn
 ·unfold uU at h
  split at h
  ·rename_i hl
   cases hr : ai (ev L T) (ak T) F.body (iL xs) with
   | none=>rw [hr] at h; cases h
   | some r =>
    rw [hr] at h
    obtain ⟨n,hn⟩:=LG hr
    refine zx (n:=n + 1) ?_
    simp only [exec,hF,eF,if_pos hl,hn n (Nat.le_refl n)]
    exact h
  ·cases h
theorem lD {f : FuncId} (hF : T f = none) (xs : List X) : ev L T f xs = L f xs:=by
 refine BP (fun o h=>?_) fun o h=>?_
 ·obtain ⟨n,hn⟩:=uV h
  cases n with
  | zero=>cases hn
  | succ n=>simpa only [exec,hF] using hn
 ·refine zx (n:=1) ?_
  simpa only [exec,hF] using h
end
end M
namespace M
open Go
section
variable {C : bz} {ok : FuncId→Bool} {T : ff}
@[simp] theorem WS (s : ag) : ai C ok .skip s = some (.normal,s):=rfl
@[simp] theorem WQ (s : ag) : ai C ok .ret s = some (.ret,s):=rfl
@[simp] theorem WL (i : Nat) (s : ag) : ai C ok (.exit i) s = some (.exit i,s):=rfl
@[simp] theorem WN (l : List G) (s : ag) : ai C ok (.ops l) s = eu (fL C ok l s):=rfl
@[simp] theorem WK (t : DT) (s : ag) : ai C ok (.draw t) s = eu (eD C ok t s):=rfl
@[simp] theorem WR (a b : A) (s : ag) : ai C ok (.seq a b) s = cT (ai C ok b) (ai C ok a s):=rfl
@[simp] theorem WI (i : Nat) (b : A) (s : ag) : ai C ok (.block i b) s = gF i (ai C ok b s):=rfl
@[simp] theorem WM (b : A) (s : ag) : ai C ok (.loop b) s = aK (ai C ok b) s:=rfl
@[simp] theorem WO (ks : List Nat) (b : A) (s : ag) : ai C ok (.pk ks b) s = gU ks (ai C ok b s):=rfl
noncomputable def Ec (C : bz) (ok : FuncId→Bool) (a b : A) (s : ag) : X→bH
 | .bool t=>if t = true then ai C ok a s else ai C ok b s
 | _=>none
@[simp] theorem WJ (c : AV) (a b : A) (s : ag) : ai C ok (.cond c a b) s = Ec C ok a b s (aj s c):=by
 simp only [ai]; cases aj s c <;> rfl
@[simp] theorem Wa (a b : A) (s : ag) (t : Bool) : Ec C ok a b s (.bool t) = if t = true then ai C ok a s else ai C ok b s:=rfl
@[simp] theorem WG (s : ag) : fL C ok [] s = some s:=rfl
@[simp] theorem WE (g : G) (l : List G) (s : ag) : fL C ok (g :: l) s = (eG C ok g s).bind (fL C ok l):=rfl
@[simp] theorem WA (ks : List Nat) (s : ag) : eD C ok (.nil ks) s = some (keep ks s):=rfl
@[simp] theorem WB (i : Nat) (g : G) (t : DT) (s : ag) : eD C ok (.step i g t) s = (eG C ok g s).bind (eD C ok t):=rfl
@[simp] theorem Wy (a b : DT) (s : ag) : eD C ok (.alt a b) s = same (eD C ok a s) (eD C ok b s):=rfl
@[simp] theorem Wz (ks : List Nat) (t : DT) (s : ag) : eD C ok (.kp ks t) s = eD C ok t (keep ks s):=rfl
@[simp] theorem Yb (s : ag) : same (some s) (some s) = some s:=by
 have : lA s s = true:=by
  induction s with
  | nil=>rfl
  | cons a l ih=>obtain ⟨k,x⟩:=a; simp [lA,X.Ez,ih]
 simp [same,this]
@[simp] theorem Vq (c : Prop) [Decidable c] (a b : Option ag) (f : ag→Option ag) : (if c then a else b).bind f = if c then a.bind f else b.bind f:=by split <;> rfl
def ve (C : bz) (ok : FuncId→Bool) (o : bw) (t : Nat) (b : Bool) (s : ag) : X→Option ag
 | .bool v=>if v = b then bK C ok o ((t,.bool b) :: s) else some (de o.dst (.au []) ((t,.bool (!b)) :: s))
 | .au []=>some (de o.dst (.au []) s)
 | _=>none
@[simp] theorem WC (o : bw) (s : ag) : eG C ok ⟨none,o⟩ s = bK C ok o s:=rfl
@[simp] theorem WD (t : Nat) (b : Bool) (o : bw) (s : ag) : eG C ok ⟨some (t,b),o⟩ s = ve C ok o t b s (get s t):=by
 simp only [eG]
 split <;> simp_all [ve]
@[simp] theorem W8 (o : bw) (t : Nat) (b v : Bool) (s : ag) : ve C ok o t b s (.bool v) = if v = b then bK C ok o ((t,.bool b) :: s) else some (de o.dst (.au []) ((t,.bool (!b)) :: s)):=rfl
@[simp] theorem W9 (o : bw) (t : Nat) (b : Bool) (s : ag) : ve C ok o t b s (.au []) = some (de o.dst (.au []) s):=rfl
@[simp] theorem XW (s : ag) : eu (some s) = some (.normal,s):=rfl
@[simp] theorem XV : eu none = none:=rfl
@[simp] theorem XU (c : Prop) [Decidable c] (a b : Option ag) : eu (if c then a else b) = if c then eu a else eu b:=by split <;> rfl
@[simp] theorem Yg (k : ag→bH) (s : ag) : cT k (some (.normal,s)) = k s:=rfl
@[simp] theorem Yd (k : ag→bH) (i : Nat) (s : ag) : cT k (some (.exit i,s)) = some (.exit i,s):=rfl
@[simp] theorem Yh (k : ag→bH) (s : ag) : cT k (some (.ret,s)) = some (.ret,s):=rfl
@[simp] theorem Yf (k : ag→bH) : cT k none = none:=rfl
@[simp] theorem Ye (k : ag→bH) (c : Prop) [Decidable c] (a b : bH) : cT k (if c then a else b) = if c then cT k a else cT k b:=by split <;> rfl
@[simp] theorem Vu (i : Nat) (s : ag) : gF i (some (.normal,s)) = some (.normal,s):=rfl
@[simp] theorem Vr (i j : Nat) (s : ag) : gF i (some (.exit j,s)) = if j = i then some (.normal,s) else some (.exit j,s):=rfl
@[simp] theorem Vv (i : Nat) (s : ag) : gF i (some (.ret,s)) = some (.ret,s):=rfl
@[simp] theorem Vt (i : Nat) : gF i none = none:=rfl
@[simp] theorem Vs (i : Nat) (c : Prop) [Decidable c] (a b : bH) : gF i (if c then a else b) = if c then gF i a else gF i b:=by split <;> rfl
@[simp] theorem X5 (ks : List Nat) (s : ag) : gU ks (some (.normal,s)) = some (.normal,keep ks s):=rfl
@[simp] theorem X2 (ks : List Nat) (i : Nat) (s : ag) : gU ks (some (.exit i,s)) = some (.exit i,s):=rfl
@[simp] theorem X6 (ks : List Nat) (s : ag) : gU ks (some (.ret,s)) = some (.ret,s):=rfl
@[simp] theorem X4 (ks : List Nat) : gU ks none = none:=rfl
@[simp] theorem X3 (ks : List Nat) (c : Prop) [Decidable c] (a b : bH) : gU ks (if c then a else b) = if c then gU ks a else gU ks b:=by split <;> rfl
def mM (rs : List RV) (n : Nat) : bH→Option Out
 | some (.exit _,_)=>none
 | some (_,s)=>if X.clean.bC (cy rs s).1 = true∧(cy rs s).1.any X.iB = false then some (nG (cy rs s).1,kJ 0 n (cy rs s).2) else none
 | none=>none
def zA (rs : List RV) (n : Nat) (s : ag) : Option Out:=if X.clean.bC (cy rs s).1 = true∧(cy rs s).1.any X.iB = false then some (nG (cy rs s).1,kJ 0 n (cy rs s).2) else none
theorem az {L : bz} {T : ff} {f : FuncId} {b : A} {rs : List RV} {n : Nat} (h : T f = some ⟨b,rs,n⟩) {xs : List X} (hl : xs.length = n) : ev L T f xs = mM rs n (ai (ev L T) (ak T) b (iL xs)):=by
 rw [LH h]
 unfold uU
 rw [if_pos hl]
 rfl
@[simp] theorem W7 (rs : List RV) (n : Nat) (s : ag) : mM rs n (some (.ret,s)) = zA rs n s:=rfl
@[simp] theorem W6 (rs : List RV) (n : Nat) (s : ag) : mM rs n (some (.normal,s)) = zA rs n s:=rfl
@[simp] theorem W5 (rs : List RV) (n : Nat) : mM rs n none = none:=rfl
@[simp] theorem W4 (rs : List RV) (n : Nat) (c : Prop) [Decidable c] (a b : bH) : mM rs n (if c then a else b) = if c then mM rs n a else mM rs n b:=by split <;> rfl
@[simp] theorem X9 (d : Option Nat) (s : ag) (r : X) (ps : List X) : kK d s (some (r,ps)) = some (de d r s):=rfl
@[simp] theorem X8 (d : Option Nat) (s : ag) : kK d s none = none:=rfl
@[simp] theorem X7 (d : Option Nat) (s : ag) (c : Prop) [Decidable c] (a b : Option Out) : kK d s (if c then a else b) = if c then kK d s a else kK d s b:=by split <;> rfl
end
attribute [simp] zA bK iL tW tX cy kJ post nG X.iB X.clean X.clean.bC X.clean.aW keep yq uF lg og
end M
namespace M
open Go
def mI (z bytes : Nat) : A:=(.seq (.pk [0] (.ops [⟨none,.bp 2 .bg (.k (.row .own z []))⟩])) (.seq (.seq (.pk [0,4] (.ops [⟨none,.mv 3 (.t 0)⟩,⟨none,.l5 4 false (.t 3)⟩])) (.pk [0] (.cond (.t 4) (.seq (.pk [2,7] (.ops [⟨none,.bp 2 .bg (.k (.row .own z []))⟩])) .ret) .skip))) (.seq (.pk [2,7] (.ops [⟨none,.lit 5 .mv z []⟩,⟨none,.mv 6 (.t 0)⟩,⟨none,.app 7 .al z bytes (.t 5) (.t 6)⟩,⟨none,.bp 2 .bg (.t 7)⟩])) .ret)))
theorem D6 : ∀ {rows : List (List X)},cF rows = true→X.clean.aW rows = true
 | [],_=>rfl
 | e :: l,h=>by
  simp only [cF,Bool.and_eq_true,List.all_eq_true] at h
  have h1 : X.clean.bC e = true:=by
   have h2:=h.1
   clear h
   induction e with
   | nil=>rfl
   | cons x e ih =>
    have hx:=h2 x (List.mem_cons_self ..)
    have he:=ih fun y hy=>h2 y (List.mem_cons_of_mem _ hy)
    cases x <;> simp_all [scalar,X.clean.bC,X.clean]
  simp only [X.clean.aW,h1,D6 h.2,Bool.and_self]
theorem Lc [Bs] {P : Program} {f : FuncId} {z bytes : Nat} (hT : Told P f (mI z bytes) [.t 2] 1) {rows : List (List X)} (h1 : rows.length * bytes≤140737488355328) (h2 : cF rows = true) (h4 : ey rows = true∨rows = []) :
  AC P f [.row .af z rows] fun r ps=>r = .row .own z rows∧ps = [.dead]:=by
 refine hT.ac rfl ?_
 have h3:=CL h2
 have h5:=D6 h2
 simp [mI,cH,fZ,jY,aI,base,Ends,h1,h3,h5]
 intro h6
 rcases h4 with h4 | h4
 ·rw [h4] at h6; cases h6
 ·subst h4; simp
def gh (f0 z bytes : Nat) : bz:=fun f xs=>if f = f0 then (match xs with
 | [.row .af z' rows]=>if z' = z∧rows.length * bytes≤140737488355328∧cF rows = true∧(ey rows = true∨rows = []) then some (.row .own z rows,[.dead]) else none
 | _=>none) else none
theorem uN [Bs] {P : Program} {f0 z bytes : Nat} (hT : Told P f0 (mI z bytes) [.t 2] 1) : (gh f0 z bytes).Sound P:=fun f xs o h=>by
 unfold gh at h
 split at h
 ·rename_i hf
  subst hf
  split at h
  ·split at h
   ·rename_i hc
    obtain ⟨rfl,c1,c2,c3⟩:=hc
    cases h
    exact Lc hT c1 c2 c3
   ·cases h
  ·cases h
 ·cases h
def eV (L L' : bz) : bz:=fun f xs=>match L f xs with
 | some o=>some o
 | none=>L' f xs
theorem nE [Bs] {P : Program} {L L' : bz} (h : L.Sound P) (h' : L'.Sound P) : (eV L L').Sound P:=fun f xs o e=>by
 unfold eV at e
 split at e
 ·rename_i o' e'
  cases e
  exact h f xs _ e'
 ·exact h' f xs _ e
end M
namespace M
open Go
def sv : X→Value
 | .int k n=>.int k n
 | .bool b=>.bool b
 | .str s=>.string s
 | _=>undef
theorem Sd {c : C} (h : scalar c.er = true) : c.val = sv c.er:=by
 cases c <;> first | rfl | (simp [C.er,scalar] at h)
def uc : X→Bool
 | .str s=>decide (s.size≤9223372036854775807)
 | x=>scalar x
def gW (f0 : FuncId) (g : List X→Option X) : bz:=fun f xs=>if f = f0 then (match g xs with
 | some r=>if xs.all scalar = true∧uc r = true then some (r,xs.map fun _=>.dead) else none
 | none=>none) else none
end M
namespace M
open Go Go.Sort
def mq [B : Bs] (w : World) : Prop:=∀ b,b < B.W0.heap.size→w.heap[b]? = B.W0.heap[b]?
theorem I2 [Bs] {P : Program} {f : FuncId} {xs : List X} {r : X} (hx : ∀ x∈xs,scalar x = true) (hr : uc r = true)
  (h : ∀ w,mq w→Calls P f (xs.map sv).toArray w fun e w'=>e = .returned (sv r)∧∃ k os,w' = grow (w.drewN k) os) : AC P f xs fun r' ps=>r' = r∧ps = xs.map fun _=>.dead:=by
 intro w zl zb cs e hA jx
 have hv : cs.map C.val = xs.map sv:=by
  rw [← e,List.map_map]
  exact List.map_congr_left fun c hc=>Sd (hx _ (e ▸ List.mem_map_of_mem hc))
 rw [hv]
 refine (h w fun b hb=>(jx b hb).1).mono fun e' w' ⟨he,k,os,hw⟩=>?_
 subst hw
 have hsz : w.heap.size≤(grow (w.drewN k) os).heap.size:=by simp [grow,World.drewN]
 have hs : ∃ c : C,c.er = r∧c.val = sv r∧c.ok (grow (w.drewN k) os) (Zf zl fun _ _=>False)∧c.bare∧∀ b k,¬ c.fp b k:=by
  cases r with
  | int k n=>exact ⟨.int k n,rfl,rfl,trivial,trivial,fun _ _ h=>h⟩
  | bool b=>exact ⟨.bool b,rfl,rfl,trivial,trivial,fun _ _ h=>h⟩
  | str s=>exact ⟨.str s,rfl,rfl,by simp [uc] at hr; exact hr,trivial,fun _ _ h=>h⟩
  | _=>simp [uc,scalar] at hr
 obtain ⟨c,c1,c2,c3,c4,c5⟩:=hs
 have zW : Ext (fun b k=>∃ x∈cs,x.fp b k) w (grow (w.drewN k) os):=⟨rfl,rfl,rfl,hsz,fun b hb=>.inl (by
  show (w.heap ++ os)[b]? = w.heap[b]?
  exact Array.getElem?_append_left hb)⟩
 refine ⟨c,cs.map fun x=>.dead x.val,zl,⟨by rw [he,c2],by rw [List.map_map]; rfl,zW,⟨fun x hx'=>?_,fun x hx'=>?_,fun x hx' b k hf=>?_,fun b k hz=>Nat.lt_of_lt_of_le (hA.bF b k (hz.imp id fun h=>h.elim)) hsz,?_⟩,fun x hx' b k hf=>?_,fun _ _ h=>h,fun _ _ h=>.inl h⟩,c1,?_⟩
 ·rcases List.mem_cons.1 hx' with rfl | hx'
  ·exact c3
  ·obtain ⟨y,_,rfl⟩:=List.mem_map.1 hx'; trivial
 ·rcases List.mem_cons.1 hx' with rfl | hx'
  ·exact c4
  ·obtain ⟨y,_,rfl⟩:=List.mem_map.1 hx'; trivial
 ·rcases List.mem_cons.1 hx' with rfl | hx'
  ·exact (c5 b k hf).elim
  ·obtain ⟨y,_,rfl⟩:=List.mem_map.1 hx'; exact hf.elim
 ·refine List.pairwise_cons.2 ⟨fun x _ b k hf=>(c5 b k hf).elim,?_⟩
  refine List.pairwise_iff_getElem.2 fun i j hi hj _ b k hf=>?_
  obtain ⟨y,_,hy⟩:=List.mem_map.1 (List.getElem_mem hi)
  rw [← hy] at hf
  exact hf.elim
 ·rcases List.mem_cons.1 hx' with rfl | hx'
  ·exact (c5 b k hf).elim
  ·obtain ⟨y,_,rfl⟩:=List.mem_map.1 hx'; exact hf.elim
 ·rw [← e]
  simp [List.map_map,Function.comp_def,C.er]
theorem Ou [Bs] {P : Program} {f0 : FuncId} {g : List X→Option X} (h : ∀ xs r,g xs = some r→∀ w,mq w→Calls P f0 (xs.map sv).toArray w fun e w'=>e = .returned (sv r)∧∃ k os,w' = grow (w.drewN k) os) : (gW f0 g).Sound P:=fun f xs o e=>by
 unfold gW at e
 split at e
 ·rename_i hf
  subst hf
  split at e
  ·rename_i r hr
   split at e
   ·rename_i hc
    cases e
    exact I2 (List.all_eq_true.1 hc.1) hc.2 (h xs r hr)
   ·cases e
  ·cases e
 ·cases e
theorem TabIs.same [B : Bs] {P : Program} {w : World} {n : String} {k : IntKind} {zs : List Int} (h : Lib.TabIs P B.W0 n k zs) (hw : mq w) : Lib.TabIs P w n k zs:=by
 unfold Lib.TabIs World.var? at h ⊢
 cases hg : P.globalNamed n with
 | none=>rw [hg] at h; cases h
 | some g =>
  rw [hg] at h
  simp only [Option.bind_some] at h ⊢
  have hlt : g < B.W0.heap.size:=by
   rcases Nat.lt_or_ge g B.W0.heap.size with h' | h'
   ·exact h'
   ·rw [Array.getElem?_eq_none h'] at h; cases h
  rw [hw g hlt]
  exact h
theorem Si {P : Program} {W : World} {name : String} {k : IntKind} {zs : List Int} {g : Nat} {t e : TypeId} {n : Nat}
  (hg : P.globalNamed name = some g) (hty : (P.globals[g]?).map (·.type) = some t) (ht : P.underlying t = some (.array n e)) (he : P.underlying e = some (.int k)) (hce : P.cellsOf e = 1) (hct : P.cellsOf t = n) :
  ∀ {l : List (String×DataW Unit)} {ps : List MemPlace},DataW.LaidVars P W l ps→(name,Lib.tabData k zs)∈l→Lib.TabIs P W name k zs
 | [],_,_,h=>by cases h
 | (nm,d) :: l,ps,h,hm=>by
  obtain ⟨g',t',cs,fuel,p,q,hg',ht',hvar,hd,hr,_⟩:=h
  rcases List.mem_cons.1 hm with hm | hm
  ·obtain ⟨rfl,rfl⟩:=Prod.mk.inj hm
   obtain rfl:=Option.some.inj (hg.symm.trans hg')
   obtain rfl:=Option.some.inj (hty.symm.trans ht')
   unfold Lib.TabIs
   rw [hvar,← Lib.cells_of_tab ht he hce hct hd]
  ·exact Si hg hty ht he hce hct hr hm
end M
namespace M
open Go
def lv : Ex×ag→bH
 | (.normal,_)=>none
 | (.ret,s)=>some (.ret,s)
 | (.exit i,s)=>some (.exit i,s)
def jQ {β γ : Type} (go : β→γ→γ ⊕ (Ex×ag)) : List β→γ→γ ⊕ (Ex×ag)
 | [],g=>.inl g
 | b :: l,g=>match go b g with
  | .inl g'=>jQ go l g'
  | .inr o=>.inr o
theorem BC {xt : Nat} {β γ : Type} {f : ag→bH} (l : List β) (st : Nat→γ→ag) (go : β→γ→γ ⊕ (Ex×ag)) (E : γ→ag) (Inv : Nat→γ→Prop) (g : γ) (h0 : Inv 0 g)
  (h : ∀ i b g,l[i]? = some b→i < l.length→Inv i g→f (st i g) = (match go b g with | .inl g'=>some (.normal,st (i + 1) g') | .inr o=>lv o))
  (hI : ∀ i b g g',l[i]? = some b→Inv i g→go b g = .inl g'→Inv (i + 1) g')
  (hend : ∀ g,Inv l.length g→f (st l.length g) = some (.exit xt,E g)) :
  aK f (st 0 g) = match jQ go l g with | .inl g'=>some (.exit xt,E g') | .inr o=>lv o:=by
 suffices H : ∀ (r : List β) (i : Nat) (g : γ),Inv i g→l.drop i = r→i≤l.length→aK f (st i g) = match jQ go r g with | .inl g'=>some (.exit xt,E g') | .inr o=>lv o from H l 0 g h0 rfl (Nat.zero_le _)
 intro r
 induction r with
 | nil =>
  intro i g hi hr hl
  have : i = l.length:=by
   have:=congrArg List.length hr
   simp at this
   omega
  subst this
  rw [gP,hend g hi]
  rfl
 | cons b r ih =>
  intro i g hi hr hl
  have hlt : i < l.length:=by
   rcases Nat.lt_or_ge i l.length with h | h
   ·exact h
   ·rw [List.drop_eq_nil_of_le h] at hr; cases hr
  have hb : l[i]? = some b:=by
   have:=List.drop_eq_getElem_cons hlt
   rw [hr] at this
   rw [List.getElem?_eq_getElem hlt]
   cases this; rfl
  have hr' : l.drop (i + 1) = r:=by
   have:=List.drop_eq_getElem_cons hlt
   rw [hr] at this
   cases this; rfl
  rw [gP,h i b g hb hlt hi]
  unfold jQ
  cases hg : go b g with
  | inl g'=>exact ih (i + 1) g' (hI i b g g' hb hi hg) hr' hlt
  | inr o =>
   obtain ⟨e,s⟩:=o
   cases e <;> simp [cT,lv]
def aS {α : Type} (p : α→Bool) (l : List α) : Bool:=l.all p
theorem yL {α : Type} {p : α→Bool} {l : List α} : aS p l = true↔∀ x∈l,p x = true:=List.all_eq_true
theorem cN {xt : Nat} {β : Type} {f : ag→bH} (l : List β) (st : Nat→ag) (p : β→Bool) (R E : ag)
  (h : ∀ i b,l[i]? = some b→i < l.length→f (st i) = if p b = true then some (.normal,st (i + 1)) else some (.ret,R))
  (hend : f (st l.length) = some (.exit xt,E)) :
  aK f (st 0) = if aS p l = true then some (.exit xt,E) else some (.ret,R):=by
 show _ = if l.all p = true then _ else _
 have H:=BC (f:=f) l (fun i (_ : Unit)=>st i) (fun b _=>if p b = true then .inl () else .inr (.ret,R)) (fun _=>E) (fun _ _=>True) () trivial
  (fun i b g hb hl _=>by rw [h i b hb hl]; by_cases hp : p b = true <;> simp [hp,lv]) (fun _ _ _ _ _ _ _=>trivial) fun _ _=>hend
 refine H.trans ?_
 have : ∀ r : List β,jQ (fun b (_ : Unit)=>if p b = true then .inl () else .inr (Ex.ret,R)) r () = if r.all p = true then .inl () else .inr (.ret,R):=by
  intro r
  induction r with
  | nil=>rfl
  | cons b r ih =>
   simp only [jQ]
   by_cases hp : p b = true
   ·simp [hp,ih]
   ·simp [hp]
 rw [this]
 by_cases hp : l.all p = true <;> simp [hp,lv]
theorem P6 {xt : Nat} {β γ : Type} {f : ag→bH} (l : List β) (st : Nat→γ→ag) (go : γ→β→γ) (E : γ→ag) (Inv : Nat→γ→Prop) (g : γ) (h0 : Inv 0 g)
  (h : ∀ i b g,l[i]? = some b→i < l.length→Inv i g→f (st i g) = some (.normal,st (i + 1) (go g b)))
  (hI : ∀ i b g,l[i]? = some b→Inv i g→Inv (i + 1) (go g b))
  (hend : ∀ g,Inv l.length g→f (st l.length g) = some (.exit xt,E g)) :
  aK f (st 0 g) = some (.exit xt,E (l.foldl go g)):=by
 refine (BC (f:=f) l st (fun b g=>.inl (go g b)) E Inv g h0 h (fun i b g g' hb hi e=>by cases e; exact hI i b g hb hi) hend).trans ?_
 have : ∀ (r : List β) (g : γ),jQ (fun b g=>.inl (go g b)) r g = (.inl (r.foldl go g) : γ ⊕ (Ex×ag)):=by
  intro r
  induction r with
  | nil=>intro g; rfl
  | cons b r ih=>intro g; simp only [jQ,List.foldl_cons]; exact ih _
 rw [this]
theorem eP {xt : Nat} {β : Type} {f : ag→bH} (l : List β) (st : Nat→ag) (E : ag)
  (h : ∀ i b,l[i]? = some b→i < l.length→f (st i) = some (.normal,st (i + 1)))
  (hend : f (st l.length) = some (.exit xt,E)) : aK f (st 0) = some (.exit xt,E) :=
 P6 l (fun i (_ : Unit)=>st i) (fun _ _=>()) (fun _=>E) (fun _ _=>True) () trivial (fun i b _ hb hl _=>h i b hb hl) (fun _ _ _ _ _=>trivial) fun _ _=>hend
theorem aO {n : Int} (h1 : -9223372036854775808≤n) (h2 : n≤9223372036854775807) : IntKind.i64.wrap n = n:=by
 simp only [IntKind.wrap,IntKind.signed,IntKind.bits,Bool.true_and,decide_eq_true_eq]
 split <;> rename_i h <;> simp at h <;> omega
theorem aT (n : Nat) (h : n < 9223372036854775807) : IntKind.i64.wrap (↑n + 1) = ↑n + 1:=aO (by omega) (by omega)
attribute [simp] base ye dW look tV nQ nA od pz nF fE dJ
abbrev ah:=List UInt8
@[simp] theorem Yc (s : ah) : ByteArray.size ⟨s.toArray⟩ = s.length:=by simp [ByteArray.size]
@[simp] theorem str_inj (s t : ah) : ((⟨s.toArray⟩ : ByteArray) = ⟨t.toArray⟩)↔s = t:=by
 constructor
 ·intro h
  injection h with h
  simpa using congrArg Array.toList h
 ·rintro rfl; rfl
theorem iI (s t : ah) : (⟨s.toArray⟩ : ByteArray) ++ ⟨t.toArray⟩ = ⟨(s ++ t).toArray⟩:=by
 apply ByteArray.ext
 rw [ByteArray.data_append]
 simp
@[simp] def eS (s : ah) : List X:=[.str ⟨s.toArray⟩]
structure Wr where
 at_ : Int
 text : ah
 deriving DecidableEq
structure bW where
 cells : List ah
 pending : List Wr
 deriving DecidableEq
@[simp] def eW (w : Wr) : List X:=[.int .i64 w.at_,.str ⟨w.text.toArray⟩]
@[simp] def cq (m : Md) (d : bW) : List X:=[.row m 1 (d.cells.map eS),.row m 2 (d.pending.map eW)]
@[simp] theorem XO (m : Md) (l : List ah) : X.bu m (l.map eS) = l.map eS:=by induction l <;> simp_all [X.bu,X.cB,X.md]
@[simp] theorem XS (m : Md) (l : List Wr) : X.bu m (l.map eW) = l.map eW:=by induction l <;> simp_all [X.bu,X.cB,X.md]
@[simp] theorem VV (l : List ah) : X.clean.aW (l.map eS) = true:=by induction l <;> simp_all [X.clean.aW,X.clean.bC,X.clean]
@[simp] theorem VZ (l : List Wr) : X.clean.aW (l.map eW) = true:=by induction l <;> simp_all [X.clean.aW,X.clean.bC,X.clean]
def dM {α : Type} (f : α→Int→Int) : List α→Int→Int
 | [],n=>n
 | a :: l,n=>if f a n < 0 then -1 else dM f l (f a n)
theorem sQ {xt : Nat} {β : Type} {f : ag→bH} (l : List β) (st : Nat→Int→ag) (z : β→Int→Int) (R : ag) (E : Int→ag) (n : Int) (hn : 0≤n) (hm : n≤9223372036854775807)
  (hz : ∀ a n,z a n≤n∨z a n < 0)
  (h : ∀ i b n,l[i]? = some b→i < l.length→0≤n→n≤9223372036854775807→f (st i n) = if z b n < 0 then some (.ret,R) else some (.normal,st (i + 1) (z b n)))
  (hend : ∀ n,f (st l.length n) = some (.exit xt,E n)) :
  aK f (st 0 n) = if dM z l n < 0 then some (.ret,R) else some (.exit xt,E (dM z l n)):=by
 have H:=BC (f:=f) l st (fun b n=>if z b n < 0 then .inr (.ret,R) else .inl (z b n)) E (fun _ n=>0≤n∧n≤9223372036854775807) n ⟨hn,hm⟩
  (fun i b n hb hl hi=>by rw [h i b n hb hl hi.1 hi.2]; by_cases hp : z b n < 0 <;> simp [hp,lv]) (fun i b g g' hb hi hg=>by
   by_cases hp : z b g < 0
   ·simp [hp] at hg
   ·simp [hp] at hg
    have:=hz b g
    omega) fun g _=>hend g
 refine H.trans ?_
 have : ∀ (r : List β) (n : Int),0≤n→jQ (fun b n=>if z b n < 0 then .inr (Ex.ret,R) else .inl (z b n)) r n = if dM z r n < 0 then .inr (.ret,R) else .inl (dM z r n):=by
  intro r
  induction r with
  | nil=>intro n hn; rw [if_neg (by simp [dM]; omega)]; rfl
  | cons b r ih =>
   intro n hn
   simp only [jQ,dM]
   by_cases hp : z b n < 0
   ·simp [hp]
   ·simp only [hp,if_false]
    exact ih _ (by omega)
 rw [this l n hn]
 by_cases hp : dM z l n < 0 <;> simp [hp,lv]
theorem Qn {α β : Type} (l : List α) (e : α→β) (z : β) (g : β→β) {i : Nat} (hi : i < l.length) (hg : g z = e l[i]) :
  ((l.take i).map e ++ List.replicate (l.length - i) z).modify i g = (l.take (i + 1)).map e ++ List.replicate (l.length - (i + 1)) z:=by
 apply List.ext_getElem?
 intro j
 rw [List.getElem?_modify]
 rcases Nat.lt_trichotomy j i with h | h | h
 ·rw [List.getElem?_append_left (by simp; omega),List.getElem?_append_left (by simp; omega)]
  simp only [List.getElem?_map,List.getElem?_take,if_pos h,if_pos (Nat.lt_succ_of_lt h),if_neg (Nat.ne_of_gt h)]
  cases l[j]? <;> rfl
 ·subst h
  rw [List.getElem?_append_right (by simp; omega),List.getElem?_append_left (by simp; omega)]
  have : j - ((l.take j).map e).length = 0:=by simp; omega
  rw [this,List.getElem?_replicate_of_lt (by omega)]
  simp only [List.getElem?_map,List.getElem?_take,if_pos (Nat.lt_succ_self j),List.getElem?_eq_getElem hi,if_true,Option.map_some,← hg]
  rfl
 ·rw [List.getElem?_append_right (by simp; omega),List.getElem?_append_right (by simp; omega)]
  have h1 : j - ((l.take i).map e).length = j - i:=by simp; omega
  have h2 : j - ((l.take (i + 1)).map e).length = j - (i + 1):=by simp; omega
  rw [h1,h2,List.getElem?_replicate,List.getElem?_replicate]
  by_cases h3 : j < l.length
  ·rw [if_pos (by omega),if_pos (by omega)]
   simp only [Nat.ne_of_lt h,if_false]
   rfl
  ·rw [if_neg (by omega),if_neg (by omega)]
   rfl
def cX (rows : List (List X)) (i : Nat) (z : List X) : List (List X):=rows.take i ++ List.replicate (rows.length - i) z
@[simp] theorem WZ (rows : List (List X)) (i : Nat) (z : List X) : (cX rows i z).length = rows.length:=by simp [cX]; omega
@[simp] theorem LP (rows : List (List X)) (i : Nat) (z : List X) (h : i < rows.length) : (cX rows i z)[i]? = some z:=by
 unfold cX
 rw [List.getElem?_append_right (by simp; omega),List.getElem?_replicate_of_lt (by simp; omega)]
@[simp] theorem WY (rows : List (List X)) (i : Nat) (z : List X) (h : i < (cX rows i z).length) : (cX rows i z)[i] = z:=by
 have h' : i < rows.length:=by simpa using h
 have:=LP rows i z h'
 rw [List.getElem?_eq_getElem h] at this
 exact Option.some.inj this
@[simp] theorem W3 (rows : List (List X)) (z : List X) : cX rows 0 z = List.replicate rows.length z:=by simp [cX]
@[simp] theorem WX (rows : List (List X)) (i : Nat) (z : List X) (h : i = rows.length) : cX rows i z = rows:=by subst h; simp [cX]
@[simp] theorem jr (rows : List (List X)) (i : Nat) (z : List X) (g : List X→List X) (h : i < rows.length) (hg : g z = rows[i]) : (cX rows i z).modify i g = cX rows (i + 1) z:=by
 have:=Qn rows id z g h (by simpa using hg)
 simpa [cX] using this
theorem jF {α : Type} (l : List α) (i : Nat) (f g : α→α) : (l.modify i f).modify i g = l.modify i fun x=>g (f x):=by
 apply List.ext_getElem?
 intro j
 simp only [List.getElem?_modify]
 by_cases h : i = j
 ·simp only [h,if_true]; cases l[j]? <;> rfl
 ·simp only [h,if_false]; cases l[j]? <;> rfl
theorem nW {α β : Type} : ∀ {a : List α} {b : List β},a.length = b.length→∃ ps : List (α×β),a = ps.map Prod.fst∧b = ps.map Prod.snd
 | [],[],_=>⟨[],rfl,rfl⟩
 | x :: a,y :: b,h=>by
  obtain ⟨ps,h1,h2⟩:=nW (a:=a) (b:=b) (by simpa using h)
  exact ⟨(x,y) :: ps,by simp [← h1],by simp [← h2]⟩
 | [],_ :: _,h=>by cases h
 | _ :: _,[],h=>by cases h
def cL {α : Type} [DecidableEq α] (x : α×α) : Bool:=decide (x.1 = x.2)
theorem mA {α : Type} [DecidableEq α] : ∀ ps : List (α×α),aS cL ps = decide (ps.map Prod.fst = ps.map Prod.snd)
 | []=>rfl
 | x :: ps=>by
  have:=mA ps
  unfold aS at this ⊢
  simp only [List.all_cons,this,cL,List.map_cons,List.cons.injEq]
  exact (Bool.decide_and ..).symm
def cW (new old : List (List X)) (i : Nat) : List (List X):=new.take i ++ old.drop i
@[simp] theorem EC (new old : List (List X)) (i : Nat) (h : new.length = old.length) : (cW new old i).length = old.length:=by simp [cW]; omega
@[simp] theorem LO (new old : List (List X)) (i : Nat) (h : new.length = old.length) (hi : i < old.length) : (cW new old i)[i]? = old[i]?:=by
 unfold cW
 rw [List.getElem?_append_right (by simp; omega),List.getElem?_drop]
 congr 1
 simp; omega
@[simp] theorem WV (new old : List (List X)) (i : Nat) (hl : i < (cW new old i).length) (h : new.length = old.length) : (cW new old i)[i] = old[i]'(by rw [EC _ _ _ h] at hl; exact hl):=by
 have hi : i < old.length:=by rw [EC _ _ _ h] at hl; exact hl
 have:=LO new old i h hi
 rw [List.getElem?_eq_getElem hl,List.getElem?_eq_getElem hi] at this
 exact Option.some.inj this
@[simp] theorem WW (new old : List (List X)) : cW new old 0 = old:=by simp [cW]
@[simp] theorem WU (new old : List (List X)) (i : Nat) (h : new.length = old.length) (hi : i = old.length) : cW new old i = new:=by subst hi; rw [← h]; simp [cW]; omega
theorem qH (new old : List (List X)) (i : Nat) (g : List X→List X) (h : new.length = old.length) (hi : i < old.length) (hg : g (old[i]) = new[i]) : (cW new old i).modify i g = cW new old (i + 1):=by
 apply List.ext_getElem?
 intro j
 unfold cW
 rw [List.getElem?_modify]
 rcases Nat.lt_trichotomy j i with hj | hj | hj
 ·rw [List.getElem?_append_left (by simp; omega),List.getElem?_append_left (by simp; omega)]
  simp only [List.getElem?_take,if_pos hj,if_pos (Nat.lt_succ_of_lt hj),if_neg (Nat.ne_of_gt hj)]
  cases new[j]? <;> rfl
 ·subst hj
  rw [List.getElem?_append_right (by simp; omega),List.getElem?_append_left (by simp; omega)]
  have : j - (new.take j).length = 0:=by simp; omega
  rw [this,List.getElem?_drop,Nat.add_zero,List.getElem?_take,if_pos (Nat.lt_succ_self j),List.getElem?_eq_getElem hi,List.getElem?_eq_getElem (by omega)]
  simp only [if_true,← hg]
  rfl
 ·rw [List.getElem?_append_right (by simp; omega),List.getElem?_append_right (by simp; omega),List.getElem?_drop,List.getElem?_drop]
  have h1 : i + (j - (new.take i).length) = j:=by simp; omega
  have h2 : i + 1 + (j - (new.take (i + 1)).length) = j:=by simp; omega
  rw [h1,h2]
  simp only [Nat.ne_of_lt hj,if_false]
  cases old[j]? <;> rfl
def gA (n : Nat) (out : ah) : ah:=if h : n = 0 then out else gA (n / 10) (UInt8.ofNat (48 + n % 10) :: out)
termination_by n
decreasing_by omega
def nC (k : Int) : ah:=if k≤0 then [109,48] else 109 :: gA k.toNat []
def sS (n : Nat) (k : Int) : List ah:=(List.range n).map fun (i : Nat)=>nC (k + i)
def sU (n : Nat) (k : Int) : List Wr:=(List.range n).map fun (i : Nat)=>⟨k + 2 * i,nC (k + 2 * i + 1)⟩
@[simp] theorem Xx (n : Nat) (k : Int) : (sS n k).length = n:=by simp [sS]
@[simp] theorem Xz (n : Nat) (k : Int) : (sU n k).length = n:=by simp [sU]
@[simp] theorem Xw (n : Nat) (k : Int) (i : Nat) (h : i < (sS n k).length) : (sS n k)[i] = nC (k + i):=by simp [sS]
@[simp] theorem Xy (n : Nat) (k : Int) (i : Nat) (h : i < (sU n k).length) : (sU n k)[i] = ⟨k + 2 * i,nC (k + 2 * i + 1)⟩:=by simp [sU]
def foldI {β γ : Type} (go : Nat→γ→β→γ) : Nat→List β→γ→γ
 | _,[],g=>g
 | i,b :: l,g=>foldI go (i + 1) l (go i g b)
theorem o7 {xt : Nat} {β γ : Type} {f : ag→bH} (l : List β) (st : Nat→γ→ag) (go : Nat→γ→β→γ) (E : γ→ag) (Inv : Nat→γ→Prop) (g : γ) (h0 : Inv 0 g)
  (h : ∀ i b g,l[i]? = some b→i < l.length→Inv i g→f (st i g) = some (.normal,st (i + 1) (go i g b)))
  (hI : ∀ i b g,l[i]? = some b→Inv i g→Inv (i + 1) (go i g b))
  (hend : ∀ g,Inv l.length g→f (st l.length g) = some (.exit xt,E g)) :
  aK f (st 0 g) = some (.exit xt,E (foldI go 0 l g)):=by
 suffices H : ∀ (r : List β) (i : Nat) (g : γ),Inv i g→l.drop i = r→i≤l.length→aK f (st i g) = some (.exit xt,E (foldI go i r g)) from H l 0 g h0 rfl (Nat.zero_le _)
 intro r
 induction r with
 | nil =>
  intro i g hi hr hl
  have : i = l.length:=by
   have:=congrArg List.length hr
   simp at this
   omega
  subst this
  rw [gP,hend g hi]
  rfl
 | cons b r ih =>
  intro i g hi hr hl
  have hlt : i < l.length:=by
   rcases Nat.lt_or_ge i l.length with h | h
   ·exact h
   ·rw [List.drop_eq_nil_of_le h] at hr; cases hr
  have hd:=List.drop_eq_getElem_cons hlt
  rw [hr] at hd
  have hb : l[i]? = some b:=by
   rw [List.getElem?_eq_getElem hlt]
   cases hd; rfl
  have hr' : l.drop (i + 1) = r:=by cases hd; rfl
  rw [gP,h i b g hb hlt hi]
  exact ih (i + 1) _ (hI i b g hb hi) hr' hlt
def fC (k : Nat→Bool) (i : Nat) (cs : List ah) (w : Wr) : List ah:=if k i = true then cs.set w.at_.toNat w.text else cs
def ny (k : Nat→Bool) (cs : List ah) (ws : List Wr) : List ah:=foldI (fC k) 0 ws cs
theorem Bz (k : Nat→Bool) (i : Nat) (cs : List ah) (w : Wr) : (fC k i cs w).length = cs.length:=by unfold fC; split <;> simp
theorem ET (k : Nat→Bool) : ∀ (ws : List Wr) (i : Nat) (cs : List ah),(foldI (fC k) i ws cs).length = cs.length
 | [],_,_=>rfl
 | w :: ws,i,cs=>by rw [foldI,ET k ws,Bz]
theorem P3 (k : Nat→Bool) (cs : List ah) (ws : List Wr) : (ny k cs ws).length = cs.length:=ET k ws 0 cs
@[simp] theorem XT (cs : List ah) (n : Nat) (t : ah) : (cs.map eS).modify n (fun x=>x.set 0 (X.str ⟨t.toArray⟩)) = (cs.set n t).map eS:=by
 apply List.ext_getElem?
 intro j
 rw [List.getElem?_modify,List.getElem?_map,List.getElem?_map,List.getElem?_set]
 by_cases h : n = j
 ·subst h
  simp only [if_true]
  by_cases h2 : n < cs.length
  ·simp [h2]
  ·simp [h2,List.getElem?_eq_none (Nat.le_of_not_lt h2)]
 ·simp only [h,if_false]
  cases cs[j]? <;> rfl
def gN (keep : List Bool) (all : Bool) (i : Nat) : Bool:=all || keep.getD i false
@[simp] def eB (b : Bool) : List X:=[.bool b]
@[simp] theorem XB (m : Md) (l : List Bool) : X.bu m (l.map eB) = l.map eB:=by induction l <;> simp_all [X.bu,X.cB,X.md]
@[simp] theorem VJ (l : List Bool) : X.clean.aW (l.map eB) = true:=by induction l <;> simp_all [X.clean.aW,X.clean.bC,X.clean]
theorem x8 (l : List ah) : cF (l.map eS) = true:=by induction l <;> simp_all [cF,scalar]
theorem GD (l : List Wr) : cF (l.map eW) = true:=by induction l <;> simp_all [cF,scalar]
attribute [simp] x8 GD
@[simp] theorem VI (a b : List (List X)) : X.clean.aW (a ++ b) = (X.clean.aW a && X.clean.aW b):=by
 induction a with
 | nil=>simp [X.clean.aW]
 | cons e a ih=>simp [X.clean.aW,ih,Bool.and_assoc]
@[simp] theorem XA (m : Md) (a b : List (List X)) : X.bu m (a ++ b) = X.bu m a ++ X.bu m b:=by
 induction a with
 | nil=>simp [X.bu]
 | cons e a ih=>simp [X.bu,ih]
structure jW where
 code : List UInt8
 i : Nat
 h : Int
 hi : i≤code.length
 hl : code.length≤9223372036854775807
@[simp] def eU (b : UInt8) : List X:=[.int .u8 (b.toNat : Int)]
@[simp] theorem XR (m : Md) (l : List UInt8) : X.bu m (l.map eU) = l.map eU:=by induction l <;> simp_all [X.bu,X.cB,X.md]
@[simp] theorem VY (l : List UInt8) : X.clean.aW (l.map eU) = true:=by induction l <;> simp_all [X.clean.aW,X.clean.bC,X.clean]
def gi (c : jW) : List X:=[.row .sl 1 (c.code.map eU),.int .i64 c.i,.int .i64 c.h]
@[simp] theorem Wv (c : jW) : (gi c).length = 3:=rfl
@[simp] theorem Wx (c : jW) : (gi c).take 3 = gi c:=rfl
@[simp] theorem Ws (c : jW) : (gi c).drop 3 = []:=rfl
@[simp] theorem Ww (ks : List Nat) (c : jW) : X.jK ks (gi c) = gi c:=rfl
@[simp] theorem Wt (r : Nat) (p : Path) (c : jW) : X.dD r p (gi c) = gi c:=rfl
@[simp] theorem Wu (r : Nat) (p : Path) (c : jW) : X.kC r p (gi c) = gi c:=rfl
@[simp] theorem Wq (c : jW) : X.clean.bC (gi c) = true:=by simp [gi,X.clean.bC,X.clean]
@[simp] theorem Wp (c : jW) : X.bare.eJ (gi c) = true:=by simp [gi,X.bare.eJ,X.bare]
end M
namespace M
open Go Go.RowKit
inductive Ty where
 | int (k : IntKind)
 | bool
 | str
 | row (ts : List Ty)
inductive fe : Ty→X→Prop
 | int {k n} : (Lit.int k n).wf = true→fe (.int k) (.int k n)
 | bool {b} : fe .bool (.bool b)
 | str {s : ByteArray} : s.size≤maxLen→fe .str (.str s)
 | row {ts xs} : xs.length≤maxLen→(∀ r : List X,r∈xs→r.length = ts.length)→(∀ (r : List X),r∈xs→∀ (j : Nat) ty x,ts[j]? = some ty→r[j]? = some x→fe ty x)→fe (.row ts) (.row .sl ts.length xs)
structure uv (w : World) (ty : Ty) (c : C) : Prop where
 cell : c.cell
 bU : c.bU
 fits : c.fits .sl
 ok : c.ok w (Zf (fun b _=>b < w.heap.size) fun _ _=>False)
 fp : ∀ b k,¬ c.fp b k
 qu : fe ty c.er
def gG (w : World) : List Ty→List Value→List C→Prop
 | [],[],[]=>True
 | ty :: ts,v :: vs,c :: cs=>c.val = v∧uv w ty c∧gG w ts vs cs
 | _,_,_=>False
theorem E2 {w : World} : ∀ {ts : List Ty} {vs : List Value} {cs : List C} {ts' : List Ty} {vs' : List Value} {cs' : List C},gG w ts vs cs→gG w ts' vs' cs'→gG w (ts ++ ts') (vs ++ vs') (cs ++ cs')
 | [],[],[],_,_,_,_,h=>h
 | _ :: _,_ :: _,_ :: _,_,_,_,⟨h1,h2,h3⟩,h=>⟨h1,h2,E2 h3 h⟩
theorem E3 {w : World} : ∀ {ts : List Ty} {vs : List Value} {cs : List C},gG w ts vs cs→vs.length = ts.length∧cs.length = ts.length∧vs = cs.map C.val
 | [],[],[],_=>⟨rfl,rfl,rfl⟩
 | _ :: _,_ :: _,_ :: _,⟨h1,h2,h3⟩=>by
  obtain ⟨e1,e2,e3⟩:=E3 h3
  exact ⟨by simp [e1],by simp [e2],by simp [h1,← e3]⟩
theorem zL {w : World} : ∀ {ts : List Ty} {vs : List Value} {cs : List C},gG w ts vs cs→∀ {j : Nat},j < ts.length→∃ ty c,ts[j]? = some ty∧cs[j]? = some c∧vs[j]? = some c.val∧uv w ty c
 | ty :: ts,v :: vs,c :: cs,⟨h1,h2,h3⟩,0,_=>⟨ty,c,rfl,rfl,by simp [h1],h2⟩
 | ty :: ts,v :: vs,c :: cs,⟨h1,h2,h3⟩,j + 1,h=>by
  obtain ⟨ty,c,a1,a2,a3,a4⟩:=zL h3 (j:=j) (by simpa using h)
  exact ⟨ty,c,by simpa using a1,by simpa using a2,by simpa using a3,a4⟩
def p6 (P : Program) (r : TypeId→Option (List Ty)) : Nat→List Field→Option (List Ty)
 | _,[]=>some []
 | o,f :: fs=>if f.offset = o then (r f.type).bind fun ts=>if ts.length = P.cellsOf f.type then (p6 P r (o + ts.length) fs).map (ts ++ ·) else none else none
def e9 (P : Program) : Nat→Bool→TypeId→Option (List Ty)
 | 0,_,_=>none
 | n + 1,deep,t=>match P.underlying t with
  | some .bool=>some [.bool]
  | some (.int k)=>some [.int k]
  | some .string=>some [.str]
  | some (.slice e)=>if deep then (e9 P n true e).bind fun ts=>if ts.length = P.cellsOf e∧0 < P.cellsOf e then some [.row ts] else none else none
  | some (.struct fs)=>(p6 P (e9 P n deep) 0 fs.toList).bind fun ts=>if ts.length = P.cellsOf t then some ts else none
  | _=>none
section
variable {H : Type} {enc : TypeId×Value→H} {P : Program} {w : World} {sp : Nat→Bool} {held : Bool}
theorem Hf {r : TypeId→Option (List Ty)} {cs : List Value}
  (hr : ∀ t ts fuel cs' x,r t = some ts→DataW.trod enc P w 0 sp held fuel t cs' = some x→(∀ v∈cs',v∈cs)→∃ Cs,gG w ts cs' Cs) :
  ∀ (fs : List Field) (o : Nat) (ts : List Ty),p6 P r o fs = some ts→(∀ f∈fs,∃ fuel x,DataW.trod enc P w 0 sp held fuel f.type ((cs.drop f.offset).take (P.cellsOf f.type)) = some x) →
   ∃ Cs,gG w ts ((cs.drop o).take ts.length) Cs
 | [],o,ts,h,_=>by
  cases h
  exact ⟨[],by simp [gG]⟩
 | f :: fs,o,ts,h,hx=>by
  simp only [p6] at h
  split at h
  ·rename_i ho
   simp only [Option.bind_eq_some_iff] at h
   obtain ⟨t1,h1,h⟩:=h
   split at h
   ·rename_i hl
    simp only [Option.map_eq_some_iff] at h
    obtain ⟨t2,h2,rfl⟩:=h
    obtain ⟨fuel,x,hf⟩:=hx f (List.mem_cons_self ..)
    obtain ⟨C1,g1⟩:=hr _ _ _ _ _ h1 hf fun v hv=>List.mem_of_mem_drop (List.mem_of_mem_take hv)
    obtain ⟨C2,g2⟩:=Hf hr fs _ _ h2 fun f hf=>hx f (List.mem_cons_of_mem _ hf)
    refine ⟨C1 ++ C2,?_⟩
    rw [List.length_append,List.take_add,List.drop_drop]
    rw [ho,← hl] at g1
    exact E2 g1 g2
   ·cases h
  ·cases h
theorem R7 {w : World} {g o n m : Nat} {spot : Option Nat} {vs : List Value} (hn : 0 < n) (h : w.cells? 0 ((⟨g,o,spot⟩ : Addr).add (0 * m)) n = some vs) : spot = none:=by
 obtain ⟨_,hl,e3⟩:=World.cells?_some h
 have e4:=e3 0 hn
 have : ∃ v,vs[0]? = some v:=⟨vs[0],List.getElem?_eq_getElem (by omega)⟩
 obtain ⟨v,hv⟩:=this
 rw [hv] at e4
 have ha : ((⟨g,o,spot⟩ : Addr).add (0 * m)).add 0 = ⟨g,o,spot⟩:=by simp [Addr.add]
 rw [ha] at e4
 unfold World.cell? at e4
 cases spot with
 | none=>rfl
 | some k =>
  split at e4
  ·simp at e4
  ·cases e4
theorem trod_good : ∀ (n : Nat) (deep : Bool) (t : TypeId) (ts : List Ty),e9 P n deep t = some ts→∀ (fuel : Nat) (cs : List Value) (x : DataW H×List MemPlace),DataW.trod enc P w 0 sp held fuel t cs = some x→∃ Cs,gG w ts cs Cs
 | 0,_,_,_,h,_,_,_,_=>by cases h
 | n + 1,deep,t,ts,h,fuel,cs,x,hx=>by
  simp only [e9] at h
  split at h
  ·rename_i hu
   cases h
   obtain ⟨b,rfl,rfl⟩:=DataW.trod_bool hu hx
   exact ⟨[.bool b],rfl,⟨trivial,trivial,trivial,trivial,fun _ _ h=>h,.bool⟩,trivial⟩
  ·rename_i k hu
   cases h
   obtain ⟨m,rfl,rfl,hw⟩:=DataW.trod_int hu hx
   exact ⟨[.int k m],rfl,⟨trivial,trivial,trivial,trivial,fun _ _ h=>h,.int hw⟩,trivial⟩
  ·rename_i hu
   cases h
   obtain ⟨s,rfl,rfl,hw⟩:=DataW.trod_string hu hx
   exact ⟨[.str s],rfl,⟨trivial,trivial,trivial,hw,fun _ _ h=>h,.str hw⟩,trivial⟩
  ·rename_i e hu
   split at h
   ·rename_i hd
    simp only [Option.bind_eq_some_iff] at h
    obtain ⟨te,h1,h⟩:=h
    split at h
    ·rename_i hl
     obtain ⟨hl,hpos⟩:=hl
     cases h
     rcases DataW.trod_slice hu hx with ⟨rfl,rfl⟩ | ⟨a,len,cap,elems,rest,m,rfl,rfl,rfl,_,hlc,hcm,hel,ju,_,_⟩
     ·refine ⟨[.row .sl te.length none 0 0 fun _ _=>.dead undef],rfl,⟨trivial,trivial,.inr (.inl rfl),⟨Nat.le_refl _,fun i j hi=>by omega,fun i j hi=>by omega,fun h=>(by cases h),fun i j hi=>by omega⟩,fun b k h=>(by cases h.1),?_⟩,trivial⟩
      exact fe.row (xs:=[]) (by simp) (fun r hr=>by cases hr) (fun r hr=>by cases hr)
     ·obtain ⟨g,o,spot⟩:=a
      by_cases hl0 : len = 0
      ·subst hl0
       refine ⟨[.row .sl te.length (some (g,o,spot)) 0 cap fun _ _=>.dead undef],rfl,⟨trivial,trivial,.inr (.inl rfl),⟨hlc,fun i j hi=>by omega,fun i j hi=>by omega,fun h=>(by cases h),fun i j hi=>by omega⟩,fun b k h=>(by cases h.1),?_⟩,trivial⟩
       exact fe.row (xs:=[]) (by simp) (fun r hr=>by cases hr) (fun r hr=>by cases hr)
      have Pu : spot = none:=by
       have:=ju 0 (by omega)
       rw [List.getElem?_eq_getElem (by omega),Option.bind_eq_some_iff] at this
       obtain ⟨vs,e1,e2⟩:=this
       exact R7 hpos e1
      subst Pu
      have hex : ∀ i,∃ (vs : List Value) (l : List C),i < len→w.cells? 0 ((⟨g,o,none⟩ : Addr).add (i * P.cellsOf e)) (P.cellsOf e) = some vs∧gG w te vs l:=fun i=>by
       by_cases hi : i < len
       ·have:=ju i hi
        rw [List.getElem?_eq_getElem (by omega),Option.bind_eq_some_iff] at this
        obtain ⟨vs,e1,e2⟩:=this
        obtain ⟨l,hl⟩:=trod_good n true _ _ h1 _ _ _ e2
        exact ⟨vs,l,fun _=>⟨e1,hl⟩⟩
       ·exact ⟨[],[],fun h=>(hi h).elim⟩
      let vs:=fun i=>(hex i).choose
      let l:=fun i=>(hex i).choose_spec.choose
      have hvl : ∀ i,i < len→w.cells? 0 ((⟨g,o,none⟩ : Addr).add (i * P.cellsOf e)) (P.cellsOf e) = some (vs i)∧gG w te (vs i) (l i):=fun i=>(hex i).choose_spec.choose_spec
      have hij : ∀ i j,i < len→j < te.length→∃ ty,te[j]? = some ty∧(l i)[j]? = some ((l i).getD j (.dead undef))∧w.cell? ⟨g,o + i * te.length + j,none⟩ = some ((l i).getD j (.dead undef)).val∧uv w ty ((l i).getD j (.dead undef)):=fun i j hi hj=>by
       obtain ⟨e1,e2⟩:=hvl i hi
       obtain ⟨ty,c,a1,a2,a3,a4⟩:=zL e2 hj
       have hc : (l i).getD j (.dead undef) = c:=by rw [List.getD_eq_getElem?_getD,a2]; rfl
       rw [hc]
       obtain ⟨_,_,e3⟩:=World.cells?_some e1
       have e4:=e3 j (by omega)
       rw [a3] at e4
       refine ⟨ty,a1,a2,?_,a4⟩
       rw [← e4]
       congr 1
       rw [hl]
       unfold Addr.add
       split <;> split <;> simp_all
      have hb : ∀ i j,i < len→j < te.length→g < w.heap.size:=fun i j hi hj=>by
       obtain ⟨_,_,_,h3,_⟩:=hij i j hi hj
       exact World.block_lt_of_cell? w _ h3
      refine ⟨[.row .sl te.length (some (g,o,none)) len cap fun i j=>(l i).getD j (.dead undef)],rfl,⟨trivial,trivial,.inr (.inl rfl),⟨hlc,fun i j hi hj=>⟨g,o,rfl,?_,fun _=>hb i j hi hj⟩,fun i j hi hj=>?_,fun h=>(by cases h),fun i j hi hj b k hf=>?_⟩,fun b k h=>(by cases h.1),?_⟩,trivial⟩
      ·obtain ⟨ty,_,_,h3,h4⟩:=hij i j hi hj
       exact h3
      ·obtain ⟨ty,_,_,h3,h4⟩:=hij i j hi hj
       exact ⟨h4.cell,h4.bU,h4.fits,h4.ok⟩
      ·obtain ⟨ty,_,_,h3,h4⟩:=hij i j hi hj
       exact (h4.fp b k hf).elim
      ·refine fe.row (by simpa using Nat.le_trans hlc hcm) (fun r hr=>?_) fun r hr j ty x hty Ah=>?_
       ·simp only [List.mem_map,List.mem_range] at hr
        obtain ⟨i,_,rfl⟩:=hr
        simp
       ·simp only [List.mem_map,List.mem_range] at hr
        obtain ⟨i,hi,rfl⟩:=hr
        have hj : j < te.length:=by
         rcases Nat.lt_or_ge j te.length with h | h
         ·exact h
         ·rw [List.getElem?_eq_none h] at hty; cases hty
        obtain ⟨ty',e1,_,_,h4⟩:=hij i j hi hj
        rw [e1] at hty
        cases hty
        rw [List.getElem?_map,List.getElem?_range hj] at Ah
        simp only [Option.map_some,Option.some.injEq] at Ah
        subst Ah
        exact h4.qu
    ·cases h
   ·cases h
  ·rename_i fs hu
   simp only [Option.bind_eq_some_iff] at h
   obtain ⟨te,h1,h⟩:=h
   split at h
   ·rename_i hl
    cases h
    obtain ⟨xs,m,rfl,rfl,hcs,hxl,ju⟩:=DataW.trod_struct hu hx
    obtain ⟨Cs,hC⟩:=Hf (cs:=cs) (fun t ts' fuel cs' x hr ht hm=>trod_good n deep t ts' hr fuel cs' x ht) fs.toList 0 ts h1 fun f hf=>by
     obtain ⟨i,hi,rfl⟩:=List.getElem_of_mem hf
     have hi' : i < fs.size:=by simpa using hi
     have:=ju i (fs[i]) (by simp [hi'])
     rw [List.getElem?_eq_getElem (by omega)] at this
     exact ⟨_,_,by simpa using this⟩
    refine ⟨Cs,?_⟩
    rw [List.drop_zero,hl,← hcs,List.take_length] at hC
    exact hC
   ·cases h
  ·cases h
theorem CW : ∀ (n : Nat) (deep : Bool) (t : TypeId) (ts : List Ty),e9 P n deep t = some ts→∀ (fuel : Nat) (cs : List Value) (x : DataW H×List MemPlace),DataW.trod enc P w 0 (fun _=>true) held fuel t cs = some x→DataW.trod enc P w 0 (fun b=>decide (b < w.heap.size)) held fuel t cs = some x
 | 0,_,_,_,h,_,_,_,_=>by cases h
 | n + 1,deep,t,ts,h,0,cs,x,hx=>by simp [DataW.trod] at hx
 | n + 1,deep,t,ts,h,fuel + 1,cs,x,hx=>by
  simp only [e9] at h
  split at h
  ·rename_i hu
   obtain ⟨b,rfl,rfl⟩:=DataW.trod_bool hu hx
   simp [DataW.trod,hu]
  ·rename_i k hu
   obtain ⟨m,rfl,rfl,hw⟩:=DataW.trod_int hu hx
   simp [DataW.trod,hu,hw]
  ·rename_i hu
   obtain ⟨s,rfl,rfl,hw⟩:=DataW.trod_string hu hx
   simp [DataW.trod,hu,hw]
  ·rename_i e hu
   split at h
   ·simp only [Option.bind_eq_some_iff] at h
    obtain ⟨te,h1,h⟩:=h
    split at h
    ·rename_i hl
     obtain ⟨hl,hpos⟩:=hl
     rcases DataW.trod_slice hu hx with ⟨rfl,rfl⟩ | ⟨a,len,cap,elems',rest',m,_,rfl,_⟩
     ·simp [DataW.trod,hu]
     ·unfold DataW.trod at hx ⊢
      simp only [hu] at hx ⊢
      split at hx
      ·rename_i hc
       rw [if_pos hc]
       simp only [Option.map_eq_some_iff,Option.bind_eq_some_iff,if_true] at hx ⊢
       obtain ⟨elems,he,rest,mV,rfl⟩:=hx
       have one : ∀ (i : Nat) (y : DataW H×List MemPlace),(w.cells? 0 (a.add (i * P.cellsOf e)) (P.cellsOf e)).bind (DataW.trod enc P w 0 (fun _=>true) held fuel e) = some y→(w.cells? 0 (a.add (i * P.cellsOf e)) (P.cellsOf e)).bind (DataW.trod enc P w 0 (fun b=>decide (b < w.heap.size)) held fuel e) = some y:=fun i y hv=>by
        simp only [Option.bind_eq_some_iff] at hv ⊢
        obtain ⟨cs',fQ,hy'⟩:=hv
        exact ⟨cs',fQ,CW n true _ _ h1 _ _ _ hy'⟩
       refine ⟨elems,mapM_carry he fun i y _ _ hv=>one i y hv,rest,?_,rfl⟩
       by_cases hb : a.block < w.heap.size
       ·rw [if_pos (by simpa using hb)]
        exact mapM_carry mV fun i y _ _ hv=>one (len + i) y hv
       ·rw [if_neg (by simpa using hb)]
        have : cap - len = 0:=by
         rcases Nat.eq_zero_or_pos (cap - len) with h | h
         ·exact h
         ·have h0:=mapM_some_get mV 0 0 (by simp [h])
          have hl' : 0 < rest.length:=by have:=mapM_some_length mV; simp at this; omega
          rw [List.getElem?_eq_getElem hl',Option.bind_eq_some_iff] at h0
          obtain ⟨vs,e1,_⟩:=h0
          have:=World.cells?_block e1 hpos
          refine (hb ?_).elim
          unfold Addr.add at this
          split at this <;> exact this
        rw [this] at mV
        exact mV
      ·cases hx
    ·cases h
   ·cases h
  ·rename_i fs hu
   simp only [Option.bind_eq_some_iff] at h
   obtain ⟨te,h1,h⟩:=h
   unfold DataW.trod at hx ⊢
   simp only [hu] at hx ⊢
   have each : ∀ (o : Nat) (l : List Field) (ts : List Ty),p6 P (e9 P n deep) o l = some ts→∀ f∈l,∃ t1,e9 P n deep f.type = some t1:=by
    intro o l
    induction l generalizing o with
    | nil=>intro _ _ f hf; cases hf
    | cons f l ih =>
     intro ts h f' hf'
     simp only [p6] at h
     split at h
     ·simp only [Option.bind_eq_some_iff] at h
      obtain ⟨t1,e1,h⟩:=h
      split at h
      ·simp only [Option.map_eq_some_iff] at h
       obtain ⟨t2,e2,_⟩:=h
       rcases List.mem_cons.1 hf' with rfl | hf'
       ·exact ⟨t1,e1⟩
       ·exact ih _ _ e2 f' hf'
      ·cases h
     ·cases h
   split at hx
   ·rename_i hc
    rw [if_pos hc]
    simp only [Option.map_eq_some_iff] at hx ⊢
    obtain ⟨xs,hx,rfl⟩:=hx
    refine ⟨xs,mapM_carry hx fun f y hf _ hv=>?_,rfl⟩
    obtain ⟨t1,e1⟩:=each _ _ _ h1 f hf
    exact CW n deep _ _ e1 _ _ _ hv
   ·cases hx
  ·cases h
inductive iK where
 | one (ty : Ty)
 | agg (tys : List Ty)
inductive jV : iK→X→Prop
 | one {ty x} : fe ty x→jV (.one ty) x
 | agg {tys : List Ty} {l : List X} : l.length = tys.length→(∀ (j : Nat) ty x,tys[j]? = some ty→l[j]? = some x→fe ty x)→jV (.agg tys) (.agg l)
def mB (P : Program) (t : TypeId) : Option iK:=match P.underlying t with
 | some (.struct _)=>(e9 P 20 true t).map .agg
 | some .bool=>some (.one .bool)
 | some (.int k)=>some (.one (.int k))
 | some .string=>some (.one .str)
 | some (.slice _)=>(e9 P 20 true t).bind fun
  | [ty]=>some (.one ty)
  | _=>none
 | _=>none
theorem Dp {c : C} (h1 : c.cell) (h2 : c.bU) : c.bare:=by
 cases c <;> first | trivial | exact h2.elim
structure Db (w : World) (a : iK) (v : Value) (c : C) : Prop where
 val : c.val = v
 ok : c.ok w (Zf (fun b _=>b < w.heap.size) fun _ _=>False)
 bare : c.bare
 fp : ∀ b k,¬ c.fp b k
 qu : jV a c.er
theorem vb {ty : Ty} {cs : List Value} {Cs : List C} {v : Value} (h : gG w [ty] cs Cs) (e : cs = [v]) : ∃ c,Db w (.one ty) v c:=by
 subst e
 match Cs,h with
 | [c],⟨h1,h2,_⟩=>exact ⟨c,h1,h2.ok,Dp h2.cell h2.bU,h2.fp,.one h2.qu⟩
theorem Jf {r : Reach} {base : Nat} {t : TypeId} {v : Value} {d : DataW H} {p : List MemPlace} {a : iK} (ha : mB P t = some a) (hv : Value.okWide P w r base t v) (hd : DataW.Trod enc P w 0 sp held t v d p) : ∃ c,Db w a v c:=by
 obtain ⟨fuel,hf⟩:=hd
 unfold mB at ha
 split at ha
 ·rename_i fs hu
  simp only [Option.map_eq_some_iff] at ha
  obtain ⟨ts,ht,rfl⟩:=ha
  unfold Value.okWide at hv
  rw [hu] at hv
  obtain ⟨cs,rfl,_,ts',_,_,hcell⟩:=hv
  obtain ⟨Cs,hC⟩:=trod_good _ _ _ _ ht _ _ _ hf
  obtain ⟨l1,l2,l3⟩:=E3 hC
  have ju : ∀ j,j < Cs.length→∃ ty,ts[j]? = some ty∧uv w ty (Cs.getD j (.dead undef)):=fun j hj=>by
   obtain ⟨ty,c,a1,a2,a3,a4⟩:=zL hC (j:=j) (by omega)
   exact ⟨ty,a1,by rw [List.getD_eq_getElem?_getD,a2]; exact a4⟩
  refine ⟨.agg Cs.length fun j=>Cs.getD j (.dead undef),?_,⟨fun j hj=>?_,fun j hj b k hf=>?_⟩,fun j hj=>?_,fun b k ⟨j,hj,hf⟩=>?_,?_⟩
  ·show Value.agg _ = _
   congr 1
   apply Array.ext'
   show (List.range Cs.length).map (fun j=>(Cs.getD j (.dead undef)).val) = cs.toList
   have : (Value.agg cs).cells.toList = cs.toList:=rfl
   rw [← this,l3]
   letI : Bs:=⟨w⟩
   exact iE Cs _ C.val
  ·obtain ⟨_,_,h⟩:=ju j hj; exact ⟨h.cell,h.ok⟩
  ·obtain ⟨_,_,h⟩:=ju j hj; exact (h.fp b k hf).elim
  ·obtain ⟨_,_,h⟩:=ju j hj; exact Dp h.cell h.bU
  ·obtain ⟨_,_,h⟩:=ju j hj; exact h.fp b k hf
  ·refine jV.agg (by simpa using l2) fun j ty x hty hx=>?_
   have hj : j < Cs.length:=by
    rcases Nat.lt_or_ge j Cs.length with h | h
    ·exact h
    ·rw [List.getElem?_eq_none (by simpa using h)] at hx; cases hx
   obtain ⟨ty',e1,h⟩:=ju j hj
   rw [e1] at hty
   cases hty
   rw [List.getElem?_map,List.getElem?_range hj] at hx
   simp only [Option.map_some,Option.some.injEq] at hx
   subst hx
   exact h.qu
 ·rename_i hu
  cases ha
  obtain ⟨Cs,hC⟩:=trod_good 1 true t [.bool] (by simp [e9,hu]) _ _ _ hf
  obtain ⟨b,hb,_⟩:=DataW.trod_bool hu hf
  exact vb hC (v:=v) (by
   unfold Value.okWide at hv; rw [hu] at hv
   unfold Cell.okWide at hv; rw [hu] at hv; unfold Cell.ok at hv; rw [hu] at hv
   cases v <;> first | rfl | (simp at hv; done))
 ·rename_i k hu
  cases ha
  obtain ⟨m,hb,_⟩:=DataW.trod_int hu hf
  obtain ⟨Cs,hC⟩:=trod_good 1 true t [.int k] (by simp [e9,hu]) _ _ _ hf
  exact vb hC (v:=v) (by
   unfold Value.okWide at hv; rw [hu] at hv
   unfold Cell.okWide at hv; rw [hu] at hv; unfold Cell.ok at hv; rw [hu] at hv
   cases v <;> first | rfl | (simp at hv; done))
 ·rename_i hu
  cases ha
  obtain ⟨m,hb,_⟩:=DataW.trod_string hu hf
  obtain ⟨Cs,hC⟩:=trod_good 1 true t [.str] (by simp [e9,hu]) _ _ _ hf
  exact vb hC (v:=v) (by
   unfold Value.okWide at hv; rw [hu] at hv
   unfold Cell.okWide at hv; rw [hu] at hv; unfold Cell.ok at hv; rw [hu] at hv
   cases v <;> first | rfl | (simp at hv; done))
 ·rename_i e hu
  simp only [Option.bind_eq_some_iff] at ha
  obtain ⟨ts,ht,ha⟩:=ha
  split at ha
  ·rename_i ty
   cases ha
   have hc : Cell.okWide P w r base t v:=by unfold Value.okWide at hv; rw [hu] at hv; exact hv
   have hv1 : v.cells.toList = [v]:=by
    unfold Cell.okWide at hc; rw [hu] at hc; unfold Cell.ok at hc; rw [hu] at hc
    cases v <;> first | rfl | (simp at hc; done)
   obtain ⟨Cs,hC⟩:=trod_good _ _ _ _ ht _ _ _ hf
   exact vb hC hv1
  ·cases ha
 ·cases ha
def nX : List iK→List X→Prop
 | [],[]=>True
 | a :: as,x :: xs=>jV a x∧nX as xs
 | _,_=>False
theorem Dk {r : Reach} {base : Nat} : ∀ {ts : List TypeId} {as : List iK} {vs : List Value} {ds : List (DataW H)} {p : List MemPlace},ts.map (mB P) = as.map some →
  (∀ (j : Nat) t v,ts[j]? = some t→vs[j]? = some v→Value.okWide P w r base t v)→DataW.TrodAll enc P w 0 sp held ts vs ds p →
  ∃ cs : List C,cs.map C.val = vs∧(∀ c∈cs,c.ok w (Zf (fun b _=>b < w.heap.size) fun _ _=>False)∧c.bare∧∀ b k,¬ c.fp b k)∧nX as (cs.map C.er)
 | [],[],[],[],_,_,_,_=>⟨[],rfl,fun _ h=>(by cases h),trivial⟩
 | t :: ts,a :: as,v :: vs,d :: ds,_,ha,hv,⟨p,q,h1,h2,_⟩=>by
  simp only [List.map_cons,List.cons.injEq] at ha
  obtain ⟨c,hc⟩:=Jf ha.1 (hv 0 t v rfl rfl) h1
  obtain ⟨cs,e1,e2,e3⟩:=Dk ha.2 (fun j t' v' ht eo=>hv (j + 1) t' v' (by simpa using ht) (by simpa using eo)) h2
  refine ⟨c :: cs,by simp [hc.val,e1],fun x hx=>?_,⟨hc.qu,e3⟩⟩
  rcases List.mem_cons.1 hx with rfl | hx
  ·exact ⟨hc.ok,hc.bare,hc.fp⟩
  ·exact e2 x hx
theorem VE {r : Reach} {base : Nat} {ts : List TypeId} {as : List iK} {vs : List Value} {ds : List (DataW H)} {p : List MemPlace} {f : FuncId} (ha : ts.map (mB P) = as.map some)
  (hv : ∀ (j : Nat) t v,ts[j]? = some t→vs[j]? = some v→Value.okWide P w r base t v) (hd : DataW.TrodAll enc P w 0 sp held ts vs ds p)
  (Oz : ∀ xs,nX as xs→@AC ⟨w⟩ P f xs fun r _=>r = .bool true) : Calls P f vs.toArray w fun e w'=>e = .returned (.bool true)∧Below w.heap.size w w':=by
 obtain ⟨cs,rfl,hcs,hc⟩:=Dk ha hv hd
 refine (Oz _ hc w (fun b _=>b < w.heap.size) (fun _ _=>False) cs rfl ⟨fun x hx=>(hcs x hx).1,fun x hx=>(hcs x hx).2.1,fun x hx b k hf=>((hcs x hx).2.2 b k hf).elim,fun b k h=>h.elim id False.elim,?_⟩ fun b hb=>⟨rfl,fun k=>.inl hb⟩).mono fun e w' ⟨r,ps,aA,hD,hr⟩=>?_
 ·refine List.pairwise_iff_getElem.2 fun i j hi hj _ b k hf=>((hcs _ (List.getElem_mem hi)).2.2 b k hf).elim
 ·letI : Bs:=⟨w⟩
  have hr':=lC hr
  subst hr'
  exact ⟨hD.ends,(hD.ext.mono (S':=fun _ _=>False) fun b k ⟨x,hx,hf⟩ _=>(hcs x hx).2.2 b k hf).below⟩
theorem Je {t : TypeId} {a : iK} (h : mB P t = some a) : ∃ n deep ts,e9 P n deep t = some ts:=by
 unfold mB at h
 split at h
 ·simp only [Option.map_eq_some_iff] at h
  obtain ⟨ts,ht,_⟩:=h
  exact ⟨_,_,ts,ht⟩
 ·rename_i hu; exact ⟨1,true,[.bool],by simp [e9,hu]⟩
 ·rename_i k hu; exact ⟨1,true,[.int k],by simp [e9,hu]⟩
 ·rename_i hu; exact ⟨1,true,[.str],by simp [e9,hu]⟩
 ·simp only [Option.bind_eq_some_iff] at h
  obtain ⟨ts,ht,_⟩:=h
  exact ⟨_,_,ts,ht⟩
 ·cases h
theorem UU {w' : World} (hb : Below w.heap.size w w') : ∀ {ts : List TypeId} {as : List iK} {vs : List Value} {ds : List (DataW H)} {p : List MemPlace},ts.map (mB P) = as.map some →
  DataW.TrodAll enc P w 0 (fun _=>true) held ts vs ds p→DataW.TrodAll enc P w' 0 (fun b=>decide (b < w.heap.size)) held ts vs ds p
 | [],[],[],[],_,_,h=>h
 | t :: ts,a :: as,v :: vs,d :: ds,_,ha,⟨p,q,⟨fuel,h1⟩,h2,e⟩=>by
  simp only [List.map_cons,List.cons.injEq] at ha
  obtain ⟨n,deep,tt,ht⟩:=Je ha.1
  have h3:=CW n deep t tt ht _ _ _ h1
  exact ⟨p,q,⟨fuel,DataW.trod_carry _ _ _ _ h3 fun m hm=>hb.same (DataW.trod_lt _ _ _ _ h3 m hm)⟩,UU hb ha.2 h2,e⟩
end
end M
namespace M
open Go
def cV (ts : List Ty) (r : List X) : Prop:=r.length = ts.length∧∀ (j : Nat) ty x,ts[j]? = some ty→r[j]? = some x→fe ty x
theorem cV.nil {r : List X} (h : cV [] r) : r = []:=List.length_eq_zero_iff.1 h.1
theorem cV.cons {ty : Ty} {ts : List Ty} {r : List X} (h : cV (ty :: ts) r) : ∃ x r',r = x :: r'∧fe ty x∧cV ts r':=by
 obtain ⟨h1,h2⟩:=h
 cases r with
 | nil=>cases h1
 | cons x r=>exact ⟨x,r,rfl,h2 0 ty x rfl rfl,by simpa using h1,fun j ty x ht hx=>h2 (j + 1) ty x (by simpa using ht) (by simpa using hx)⟩
theorem jq {x : X} (h : fe .str x) : ∃ s : ah,x = .str ⟨s.toArray⟩∧s.length≤9223372036854775807:=by
 cases h with
 | str h=>rename_i s; exact ⟨s.data.toList,by simp,by rw [Array.length_toList]; exact h⟩
theorem Jn {n : Int} (h : (Lit.int .i64 n).wf = true) : -9223372036854775808≤n∧n≤9223372036854775807:=by
 have h' : (decide (IntKind.i64.min≤n) && decide (n≤IntKind.i64.max)) = true:=h
 rw [Bool.and_eq_true,decide_eq_true_eq,decide_eq_true_eq] at h'
 exact h'
theorem j8 {x : X} (h : fe (.int .i64) x) : ∃ n : Int,x = .int .i64 n∧-9223372036854775808≤n∧n≤9223372036854775807:=by
 cases h with
 | int h =>
  rename_i n
  refine ⟨n,rfl,?_⟩
  exact Jn h
theorem FW {α : Type} {e : α→List X} {ok : α→Prop} : ∀ {xs : List (List X)},(∀ r∈xs,∃ a,r = e a∧ok a)→∃ l : List α,xs = l.map e∧∀ a∈l,ok a
 | [],_=>⟨[],rfl,fun _ h=>by cases h⟩
 | r :: xs,h=>by
  obtain ⟨a,e1,e2⟩:=h r (List.mem_cons_self ..)
  obtain ⟨l,e3,e4⟩:=FW (fun r hr=>h r (List.mem_cons_of_mem _ hr))
  refine ⟨a :: l,by simp [e1,e3],fun b hb=>?_⟩
  rcases List.mem_cons.1 hb with rfl | hb
  ·exact e2
  ·exact e4 b hb
theorem mK {α : Type} (e : α→List X) (ok : α→Prop) {ts : List Ty} {x : X} (h : fe (.row ts) x) (hr : ∀ r,cV ts r→∃ a,r = e a∧ok a) : ∃ l : List α,x = .row .sl ts.length (l.map e)∧l.length≤9223372036854775807∧∀ a∈l,ok a:=by
 cases h with
 | row h1 h2 h3 =>
  rename_i xs
  obtain ⟨l,rfl,hl⟩:=FW (e:=e) (ok:=ok) (xs:=xs) fun r hr'=>hr r ⟨h2 r hr',h3 r hr'⟩
  rw [List.length_map] at h1
  exact ⟨l,rfl,h1,hl⟩
theorem Ed {tys : List Ty} {x : X} (h : jV (.agg tys) x) : ∃ l,x = .agg l∧cV tys l:=by
 cases h with
 | agg h1 h2=>exact ⟨_,rfl,h1,h2⟩
theorem Wb {a : iK} {as : List iK} {xs : List X} (h : nX (a :: as) xs) : ∃ x xs',xs = x :: xs'∧jV a x∧nX as xs':=by
 match xs,h with
 | x :: xs',⟨h1,h2⟩=>exact ⟨x,xs',rfl,h1,h2⟩
theorem Wc {xs : List X} (h : nX [] xs) : xs = []:=by
 match xs,h with
 | [],_=>rfl
structure Vb (d : bW) : Prop where
 hb : d.cells.length≤9223372036854775807
 hs : ∀ s∈d.cells,s.length≤9223372036854775807
 hb' : d.pending.length≤9223372036854775807
 hs' : ∀ s∈d.pending,s.text.length≤9223372036854775807
 hi : ∀ s∈d.pending,-9223372036854775808≤s.at_∧s.at_≤9223372036854775807
end M
namespace M
open Go
end M
namespace M
open Go
theorem CY (m : Nat) (h : m < 256) : mb [[.int .u8 (m : Int)]] = some [UInt8.ofNat m]:=by
 have:=Hh [UInt8.ofNat m]
 have e : ((UInt8.ofNat m).toNat : Int) = m:=by
  rw [UInt8.toNat_ofNat']
  omega
 simp only [List.map_cons,List.map_nil,e] at this
 exact this
theorem yC {n : Int} (h1 : 0≤n) (h2 : n < 256) : IntKind.u8.wrap n = n:=by
 simp only [IntKind.wrap,IntKind.signed,IntKind.bits,Bool.false_and,Bool.false_eq_true,if_false]
 omega
def bG (n : Nat) : ah:=Lib.decDigits n
theorem FZ : ∀ (n : Nat) (out : ah),n≠0→gA n out = bG n ++ out:=by
 intro n
 induction n using Nat.strongRecOn with
 | ind n ih =>
  intro out h
  unfold gA bG
  rw [dif_neg h,Lib.decDigits]
  by_cases h1 : n < 10
  ·have e : n / 10 = 0:=by omega
   have e2 : n % 10 = n:=by omega
   rw [dif_pos h1,e,e2]
   unfold gA
   rw [dif_pos rfl]
   rfl
  ·rw [dif_neg h1,ih (n / 10) (by omega) _ (by omega)]
   unfold bG
   rw [List.append_assoc]
   rfl
theorem Ei : bG 0 = [48]:=by unfold bG; rw [Lib.decDigits]; rfl
theorem j9 (k : Nat) : ∀ (n : Nat),n < 10 ^ (k + 1)→(bG n).length≤k + 1:=by
 induction k with
 | zero =>
  intro n h
  unfold bG
  rw [Lib.decDigits,dif_pos (by simpa using h)]
  simp
 | succ k ih =>
  intro n h
  unfold bG
  rw [Lib.decDigits]
  by_cases h1 : n < 10
  ·rw [dif_pos h1]; simp
  ·rw [dif_neg h1,List.length_append]
   have:=ih (n / 10) (by rw [Nat.pow_succ] at h; omega)
   unfold bG at this
   simp only [List.length_cons,List.length_nil]
   omega
theorem PF (n : Nat) : Lib.itoa (n : Int) = bG n:=by
 unfold Lib.itoa bG
 rw [if_neg (by omega)]
 rfl
def rW : List X→Option X
 | [.int .i64 n]=>if -9223372036854775808≤n∧n≤9223372036854775807 then some (.str ⟨(Go.Lib.itoa n).toArray⟩) else none
 | _=>none
theorem PD (f : FuncId) (n : Nat) (h : n < 10 ^ 18) : gW f rW f [.int .i64 (n : Int)] = some (.str ⟨(bG n).toArray⟩,[.dead]):=by
 have h1 : (n : Int)≤9223372036854775807:=by omega
 have h2:=j9 17 n (by omega)
 simp [gW,rW,PF,scalar,uc,h1]
 omega
end M
namespace M
open Go
def wS (s : ah) : Nat:=s.length
def wL {α : Type} (w : α→Nat) (l : List α) : Nat:=l.length + (l.map w).sum
theorem gD {α : Type} {w : α→Nat} : ∀ {l : List α} {a : α},a∈l→w a≤wL w l
 | b :: l,a,h=>by
  rcases List.mem_cons.1 h with rfl | h
  ·simp [wL]; omega
  ·have:=gD (w:=w) h
   simp [wL] at this ⊢; omega
theorem br {α : Type} {w : α→Nat} (l : List α) : l.length≤wL w l:=by unfold wL; omega
def aJ (n : Int) (w : Nat) : Int:=if (w : Int)≤n then n - w else -1
theorem b8 (n : Int) (w : Nat) : ((w : Int)≤n∧aJ n w = n - w)∨(n < (w : Int)∧aJ n w = -1):=by
 unfold aJ
 split
 ·exact .inl ⟨by assumption,rfl⟩
 ·exact .inr ⟨by omega,rfl⟩
theorem tY (w : Nat) (n : Int) : aJ n w≤n∨aJ n w < 0:=by have:=b8 n w; omega
theorem pV {α : Type} (w : α→Nat) : ∀ (l : List α) (n : Int),0≤n→dM (fun b n=>aJ n (w b)) l n = aJ n (l.map w).sum
 | [],n,h=>by simp [dM,aJ,h]
 | b :: l,n,h=>by
  simp only [dM,List.map_cons,List.sum_cons]
  rcases b8 n (w b) with ⟨h1,h2⟩ | ⟨h1,h2⟩
  ·rw [if_neg (by omega),pV w l _ (by omega),h2]
   rcases b8 (n - w b) (l.map w).sum with ⟨h3,h4⟩ | ⟨h3,h4⟩ <;> rcases b8 n (w b + (l.map w).sum) with ⟨h5,h6⟩ | ⟨h5,h6⟩ <;> omega
  ·rw [if_pos (by omega)]
   rcases b8 n (w b + (l.map w).sum) with ⟨h5,h6⟩ | ⟨h5,h6⟩ <;> omega
def bI (n : Int) : Prop:=-9223372036854775808≤n∧n≤9223372036854775807
def bS (s : ah) : Prop:=s.length≤9223372036854775807
def bB (_ : Bool) : Prop:=True
def bL {α : Type} (b : α→Prop) (l : List α) : Prop:=l.length≤9223372036854775807∧∀ a∈l,b a
@[simp] def eI (n : Int) : List X:=[.int .i64 n]
@[simp] theorem XH (m : Md) (l : List Int) : X.bu m (l.map eI) = l.map eI:=by induction l <;> simp_all [X.bu,X.cB,X.md]
@[simp] theorem VP (l : List Int) : X.clean.aW (l.map eI) = true:=by induction l <;> simp_all [X.clean.aW,X.clean.bC,X.clean]
structure aP where
 name : ah
 value : ah
 deriving DecidableEq
@[simp] def aL (a : aP) : List X:=[.str ⟨(a.name).toArray⟩,.str ⟨(a.value).toArray⟩]
@[simp] theorem XG (m : Md) (l : List aP) : X.bu m (l.map aL) = l.map aL:=by induction l <;> simp_all [X.bu,X.cB,X.md]
@[simp] theorem VO (l : List aP) : X.clean.aW (l.map aL) = true:=by induction l <;> simp_all [X.clean.aW,X.clean.bC,X.clean]
def aU (a : aP) : Nat:=a.name.length + a.value.length
structure mC (x : aP) : Prop where
 PN : bS x.name
 PV : bS x.value
theorem Lt (a b : aP) : decide (a = b) = (decide (a.name = b.name) && decide (a.value = b.value)):=by
 cases a; cases b; simp [Bool.and_assoc]
structure cz where
 status : Int
 fields : List aP
 body : ah
 deriving DecidableEq
@[simp] def fk (m : Md) (a : cz) : List X:=[.int .i64 a.status,.row m 2 ((a.fields).map aL),.str ⟨(a.body).toArray⟩]
@[simp] theorem XM (m m' : Md) (l : List cz) : X.bu m (l.map (fk m')) = l.map (fk m):=by induction l <;> simp_all [X.bu,X.cB,X.md]
@[simp] theorem VU (l : List cz) : X.clean.aW (l.map (fk .own)) = true:=by induction l <;> simp_all [X.clean.aW,X.clean.bC,X.clean]
@[simp] theorem V7 (l : List cz) : X.clean.aW (l.map (fk .sl)) = true:=by induction l <;> simp_all [X.clean.aW,X.clean.bC,X.clean]
def ct (a : cz) : Nat:=wL aU a.fields + a.body.length
structure n7 (x : cz) : Prop where
 Xq : bI x.status
 FM : (bL mC) x.fields
 FL : bS x.body
theorem Lw (a b : cz) : decide (a = b) = (decide (a.status = b.status) && decide (a.fields = b.fields) && decide (a.body = b.body)):=by
 cases a; cases b; simp [Bool.and_assoc]
structure Rq where
 method : Int
 path : ah
 fields : List aP
 body : ah
 deriving DecidableEq
@[simp] def uR (m : Md) (a : Rq) : List X:=[.int .i64 a.method,.str ⟨(a.path).toArray⟩,.row m 2 ((a.fields).map aL),.str ⟨(a.body).toArray⟩]
@[simp] theorem XL (m m' : Md) (l : List Rq) : X.bu m (l.map (uR m')) = l.map (uR m):=by induction l <;> simp_all [X.bu,X.cB,X.md]
@[simp] theorem VT (l : List Rq) : X.clean.aW (l.map (uR .own)) = true:=by induction l <;> simp_all [X.clean.aW,X.clean.bC,X.clean]
@[simp] theorem V6 (l : List Rq) : X.clean.aW (l.map (uR .sl)) = true:=by induction l <;> simp_all [X.clean.aW,X.clean.bC,X.clean]
structure uD (x : Rq) : Prop where
 Xj : bI x.method
 FP : bS x.path
 FM : (bL mC) x.fields
 FL : bS x.body
structure Ob where
 path : ah
 names : List ah
 values : List ah
 resp : cz
 t : Int
 deriving DecidableEq
@[simp] def cu (m : Md) (a : Ob) : List X:=[.str ⟨(a.path).toArray⟩,.row m 1 ((a.names).map eS),.row m 1 ((a.values).map eS),.int .i64 a.resp.status,.row m 2 ((a.resp.fields).map aL),.str ⟨(a.resp.body).toArray⟩,.int .i64 a.t]
@[simp] theorem XJ (m m' : Md) (l : List Ob) : X.bu m (l.map (cu m')) = l.map (cu m):=by induction l <;> simp_all [X.bu,X.cB,X.md]
@[simp] theorem VR (l : List Ob) : X.clean.aW (l.map (cu .own)) = true:=by induction l <;> simp_all [X.clean.aW,X.clean.bC,X.clean]
@[simp] theorem V4 (l : List Ob) : X.clean.aW (l.map (cu .sl)) = true:=by induction l <;> simp_all [X.clean.aW,X.clean.bC,X.clean]
def b7 (a : Ob) : Nat:=a.path.length + wL wS a.names + wL wS a.values + ct a.resp
structure qn (x : Ob) : Prop where
 FP : bS x.path
 PO : (bL bS) x.names
 PW : (bL bS) x.values
 wg : n7 x.resp
 AJ : bI x.t
theorem Lv (a b : Ob) : decide (a = b) = (decide (a.path = b.path) && decide (a.names = b.names) && decide (a.values = b.values) && decide (a.resp = b.resp) && decide (a.t = b.t)):=by
 cases a; cases b; simp [Bool.and_assoc]
structure Kp where
 obj : Ob
 at_ : Int
 seq : Int
 deriving DecidableEq
@[simp] def aB (m : Md) (a : Kp) : List X:=[.str ⟨(a.obj.path).toArray⟩,.row m 1 ((a.obj.names).map eS),.row m 1 ((a.obj.values).map eS),.int .i64 a.obj.resp.status,.row m 2 ((a.obj.resp.fields).map aL),.str ⟨(a.obj.resp.body).toArray⟩,.int .i64 a.obj.t,.int .i64 a.at_,.int .i64 a.seq]
@[simp] theorem XI (m m' : Md) (l : List Kp) : X.bu m (l.map (aB m')) = l.map (aB m):=by induction l <;> simp_all [X.bu,X.cB,X.md]
@[simp] theorem VQ (l : List Kp) : X.clean.aW (l.map (aB .own)) = true:=by induction l <;> simp_all [X.clean.aW,X.clean.bC,X.clean]
@[simp] theorem V3 (l : List Kp) : X.clean.aW (l.map (aB .sl)) = true:=by induction l <;> simp_all [X.clean.aW,X.clean.bC,X.clean]
def aR (a : Kp) : Nat:=b7 a.obj
structure n6 (x : Kp) : Prop where
 FO : qn x.obj
 PG : bI x.at_
 PT : bI x.seq
theorem Lu (a b : Kp) : decide (a = b) = (decide (a.obj = b.obj) && decide (a.at_ = b.at_) && decide (a.seq = b.seq)):=by
 cases a; cases b; simp [Bool.and_assoc]
def bk (a : Wr) : Nat:=a.text.length
structure n8 (x : Wr) : Prop where
 PG : bI x.at_
 PU : bS x.text
theorem Ly (a b : Wr) : decide (a = b) = (decide (a.at_ = b.at_) && decide (a.text = b.text)):=by
 cases a; cases b; simp [Bool.and_assoc]
def bJ (a : bW) : Nat:=wL wS a.cells + wL bk a.pending
structure yP (x : bW) : Prop where
 PJ : (bL bS) x.cells
 PS : (bL n8) x.pending
theorem Ls (a b : bW) : decide (a = b) = (decide (a.cells = b.cells) && decide (a.pending = b.pending)):=by
 cases a; cases b; simp [Bool.and_assoc]
structure Bn where
 kind : Int
 a : ah
 b : ah
 t : Int
 deriving DecidableEq
@[simp] def aM (a : Bn) : List X:=[.int .i64 a.kind,.str ⟨(a.a).toArray⟩,.str ⟨(a.b).toArray⟩,.int .i64 a.t]
@[simp] theorem XC (m : Md) (l : List Bn) : X.bu m (l.map aM) = l.map aM:=by induction l <;> simp_all [X.bu,X.cB,X.md]
@[simp] theorem VK (l : List Bn) : X.clean.aW (l.map aM) = true:=by induction l <;> simp_all [X.clean.aW,X.clean.bC,X.clean]
def aH (a : Bn) : Nat:=a.a.length + a.b.length
structure jZ (x : Bn) : Prop where
 FN : bI x.kind
 FJ : bS x.a
 PI : bS x.b
 AJ : bI x.t
theorem Lr (a b : Bn) : decide (a = b) = (decide (a.kind = b.kind) && decide (a.a = b.a) && decide (a.b = b.b) && decide (a.t = b.t)):=by
 cases a; cases b; simp [Bool.and_assoc]
structure Sh where
 aG : bW
 ay : List Kp
 aD : List Bn
 next : Int
 seq : Int
 deriving DecidableEq
@[simp] def aY (m : Md) (a : Sh) : List X:=[.row m 1 ((a.aG.cells).map eS),.row m 2 ((a.aG.pending).map eW),.row m 9 ((a.ay).map (aB m)),.row m 4 ((a.aD).map aM),.int .i64 a.next,.int .i64 a.seq]
@[simp] theorem XQ (m m' : Md) (l : List Sh) : X.bu m (l.map (aY m')) = l.map (aY m):=by induction l <;> simp_all [X.bu,X.cB,X.md]
@[simp] theorem VX (l : List Sh) : X.clean.aW (l.map (aY .own)) = true:=by induction l <;> simp_all [X.clean.aW,X.clean.bC,X.clean]
@[simp] theorem V9 (l : List Sh) : X.clean.aW (l.map (aY .sl)) = true:=by induction l <;> simp_all [X.clean.aW,X.clean.bC,X.clean]
def bA (a : Sh) : Nat:=bJ a.aG + wL aR a.ay + wL aH a.aD
structure qo (x : Sh) : Prop where
 PL : yP x.aG
 PR : (bL n6) x.ay
 FK : (bL jZ) x.aD
 Xk : bI x.next
 PT : bI x.seq
theorem Lx (a b : Sh) : decide (a = b) = (decide (a.aG = b.aG) && decide (a.ay = b.ay) && decide (a.aD = b.aD) && decide (a.next = b.next) && decide (a.seq = b.seq)):=by
 cases a; cases b; simp [Bool.and_assoc]
structure Fl where
 q : Rq
 who : List Int
 old : Ob
 zR : Bool
 deriving DecidableEq
@[simp] def qC (m : Md) (a : Fl) : List X:=[.int .i64 a.q.method,.str ⟨(a.q.path).toArray⟩,.row m 2 ((a.q.fields).map aL),.str ⟨(a.q.body).toArray⟩,.row m 1 ((a.who).map eI),.str ⟨(a.old.path).toArray⟩,.row m 1 ((a.old.names).map eS),.row m 1 ((a.old.values).map eS),.int .i64 a.old.resp.status,.row m 2 ((a.old.resp.fields).map aL),.str ⟨(a.old.resp.body).toArray⟩,.int .i64 a.old.t,.bool a.zR]
@[simp] theorem XF (m m' : Md) (l : List Fl) : X.bu m (l.map (qC m')) = l.map (qC m):=by induction l <;> simp_all [X.bu,X.cB,X.md]
@[simp] theorem VN (l : List Fl) : X.clean.aW (l.map (qC .own)) = true:=by induction l <;> simp_all [X.clean.aW,X.clean.bC,X.clean]
@[simp] theorem V2 (l : List Fl) : X.clean.aW (l.map (qC .sl)) = true:=by induction l <;> simp_all [X.clean.aW,X.clean.bC,X.clean]
structure Jh (x : Fl) : Prop where
 AH : uD x.q
 Xr : (bL bI) x.who
 Xm : qn x.old
 Xh : bB x.zR
structure Se where
 q : Rq
 resp : cz
 t : Int
 deriving DecidableEq
@[simp] def qF (m : Md) (a : Se) : List X:=[.int .i64 a.q.method,.str ⟨(a.q.path).toArray⟩,.row m 2 ((a.q.fields).map aL),.str ⟨(a.q.body).toArray⟩,.int .i64 a.resp.status,.row m 2 ((a.resp.fields).map aL),.str ⟨(a.resp.body).toArray⟩,.int .i64 a.t]
@[simp] theorem XP (m m' : Md) (l : List Se) : X.bu m (l.map (qF m')) = l.map (qF m):=by induction l <;> simp_all [X.bu,X.cB,X.md]
@[simp] theorem VW (l : List Se) : X.clean.aW (l.map (qF .own)) = true:=by induction l <;> simp_all [X.clean.aW,X.clean.bC,X.clean]
@[simp] theorem V8 (l : List Se) : X.clean.aW (l.map (qF .sl)) = true:=by induction l <;> simp_all [X.clean.aW,X.clean.bC,X.clean]
structure Jj (x : Se) : Prop where
 AH : uD x.q
 wg : n7 x.resp
 AJ : bI x.t
structure Rp where
 client : Int
 q : Rq
 resp : cz
 kind : Int
 t : Int
 obj : Ob
 aD : Int
 deriving DecidableEq
@[simp] def qE (m : Md) (a : Rp) : List X:=[.int .i64 a.client,.int .i64 a.q.method,.str ⟨(a.q.path).toArray⟩,.row m 2 ((a.q.fields).map aL),.str ⟨(a.q.body).toArray⟩,.int .i64 a.resp.status,.row m 2 ((a.resp.fields).map aL),.str ⟨(a.resp.body).toArray⟩,.int .i64 a.kind,.int .i64 a.t,.str ⟨(a.obj.path).toArray⟩,.row m 1 ((a.obj.names).map eS),.row m 1 ((a.obj.values).map eS),.int .i64 a.obj.resp.status,.row m 2 ((a.obj.resp.fields).map aL),.str ⟨(a.obj.resp.body).toArray⟩,.int .i64 a.obj.t,.int .i64 a.aD]
@[simp] theorem XK (m m' : Md) (l : List Rp) : X.bu m (l.map (qE m')) = l.map (qE m):=by induction l <;> simp_all [X.bu,X.cB,X.md]
@[simp] theorem VS (l : List Rp) : X.clean.aW (l.map (qE .own)) = true:=by induction l <;> simp_all [X.clean.aW,X.clean.bC,X.clean]
@[simp] theorem V5 (l : List Rp) : X.clean.aW (l.map (qE .sl)) = true:=by induction l <;> simp_all [X.clean.aW,X.clean.bC,X.clean]
structure Ji (x : Rp) : Prop where
 PK : bI x.client
 AH : uD x.q
 wg : n7 x.resp
 FN : bI x.kind
 AJ : bI x.t
 FO : qn x.obj
 FK : bI x.aD
structure Ca where
 gZ : Sh
 qJ : List Fl
 now : Int
 seen : List Se
 sent : List Rp
 deriving DecidableEq
@[simp] def uP (m : Md) (a : Ca) : List X:=[.row m 1 ((a.gZ.aG.cells).map eS),.row m 2 ((a.gZ.aG.pending).map eW),.row m 9 ((a.gZ.ay).map (aB m)),.row m 4 ((a.gZ.aD).map aM),.int .i64 a.gZ.next,.int .i64 a.gZ.seq,.row m 13 ((a.qJ).map (qC m)),.int .i64 a.now,.row m 8 ((a.seen).map (qF m)),.row m 18 ((a.sent).map (qE m))]
@[simp] theorem XD (m m' : Md) (l : List Ca) : X.bu m (l.map (uP m')) = l.map (uP m):=by induction l <;> simp_all [X.bu,X.cB,X.md]
@[simp] theorem VL (l : List Ca) : X.clean.aW (l.map (uP .own)) = true:=by induction l <;> simp_all [X.clean.aW,X.clean.bC,X.clean]
@[simp] theorem V0 (l : List Ca) : X.clean.aW (l.map (uP .sl)) = true:=by induction l <;> simp_all [X.clean.aW,X.clean.bC,X.clean]
structure Vo (x : Ca) : Prop where
 Xp : qo x.gZ
 Xg : (bL Jh) x.qJ
 Xl : bI x.now
 Xn : (bL Jj) x.seen
 Xo : (bL Ji) x.sent
structure De where
 kind : Int
 client : Int
 q : Rq
 a : Int
 resp : cz
 ld : Bn
 keep : List Bool
 deriving DecidableEq
@[simp] def uQ (m : Md) (a : De) : List X:=[.int .i64 a.kind,.int .i64 a.client,.int .i64 a.q.method,.str ⟨(a.q.path).toArray⟩,.row m 2 ((a.q.fields).map aL),.str ⟨(a.q.body).toArray⟩,.int .i64 a.a,.int .i64 a.resp.status,.row m 2 ((a.resp.fields).map aL),.str ⟨(a.resp.body).toArray⟩,.int .i64 a.ld.kind,.str ⟨(a.ld.a).toArray⟩,.str ⟨(a.ld.b).toArray⟩,.int .i64 a.ld.t,.row m 1 ((a.keep).map eB)]
@[simp] theorem XE (m m' : Md) (l : List De) : X.bu m (l.map (uQ m')) = l.map (uQ m):=by induction l <;> simp_all [X.bu,X.cB,X.md]
@[simp] theorem VM (l : List De) : X.clean.aW (l.map (uQ .own)) = true:=by induction l <;> simp_all [X.clean.aW,X.clean.bC,X.clean]
@[simp] theorem V1 (l : List De) : X.clean.aW (l.map (uQ .sl)) = true:=by induction l <;> simp_all [X.clean.aW,X.clean.bC,X.clean]
structure Vp (x : De) : Prop where
 FN : bI x.kind
 PK : bI x.client
 AH : uD x.q
 FJ : bI x.a
 wg : n7 x.resp
 Xf : jZ x.ld
 Xi : (bL bB) x.keep
theorem Ll {ts : List Ty} {l : List X} (h : cV ([.str,.str] ++ ts) l) : ∃ (a : aP) (l' : List X),l = aL a ++ l'∧mC a∧cV ts l':=by
 simp only [List.cons_append,List.nil_append] at h
 obtain ⟨y1,r1,rfl,c1,h1⟩:=h.cons
 obtain ⟨a1,rfl,b1⟩:=jq c1
 obtain ⟨y2,r2,rfl,c2,h2⟩:=h1.cons
 obtain ⟨a2,rfl,b2⟩:=jq c2
 exact ⟨⟨a1,a2⟩,r2,by simp,⟨b1,b2⟩,h2⟩
theorem Lo {ts : List Ty} {l : List X} (h : cV ([.int .i64,.row [.str,.str],.str] ++ ts) l) : ∃ (a : cz) (l' : List X),l = fk .sl a ++ l'∧n7 a∧cV ts l':=by
 simp only [List.cons_append,List.nil_append] at h
 obtain ⟨y1,r1,rfl,c1,h1⟩:=h.cons
 obtain ⟨a1,rfl,b1⟩:=j8 c1
 obtain ⟨y2,r2,rfl,c2,h2⟩:=h1.cons
 obtain ⟨a2,rfl,b2⟩:=mK aL mC c2 fun r hr=>by
  obtain ⟨a,l',rfl,h1,h2⟩:=Ll (ts:=[]) (by simpa using hr)
  obtain rfl:=h2.nil
  exact ⟨a,by simp,h1⟩
 obtain ⟨y3,r3,rfl,c3,h3⟩:=h2.cons
 obtain ⟨a3,rfl,b3⟩:=jq c3
 exact ⟨⟨a1,a2,a3⟩,r3,by simp,⟨b1,b2,b3⟩,h3⟩
theorem Ln {ts : List Ty} {l : List X} (h : cV ([.str,.row [.str],.row [.str],.int .i64,.row [.str,.str],.str,.int .i64] ++ ts) l) : ∃ (a : Ob) (l' : List X),l = cu .sl a ++ l'∧qn a∧cV ts l':=by
 simp only [List.cons_append,List.nil_append] at h
 obtain ⟨y1,r1,rfl,c1,h1⟩:=h.cons
 obtain ⟨a1,rfl,b1⟩:=jq c1
 obtain ⟨y2,r2,rfl,c2,h2⟩:=h1.cons
 obtain ⟨a2,rfl,b2⟩:=mK eS bS c2 fun r hr=>by
  obtain ⟨x,r',rfl,h1,h2⟩:=hr.cons
  obtain rfl:=h2.nil
  obtain ⟨s,rfl,hs⟩:=jq h1
  exact ⟨s,rfl,hs⟩
 obtain ⟨y3,r3,rfl,c3,h3⟩:=h2.cons
 obtain ⟨a3,rfl,b3⟩:=mK eS bS c3 fun r hr=>by
  obtain ⟨x,r',rfl,h1,h2⟩:=hr.cons
  obtain rfl:=h2.nil
  obtain ⟨s,rfl,hs⟩:=jq h1
  exact ⟨s,rfl,hs⟩
 obtain ⟨a4,r4,rfl,b4,h4⟩:=Lo (ts:=_) h3
 obtain ⟨y5,r5,rfl,c5,h5⟩:=h4.cons
 obtain ⟨a5,rfl,b5⟩:=j8 c5
 exact ⟨⟨a1,a2,a3,a4,a5⟩,r5,by simp,⟨b1,b2,b3,b4,b5⟩,h5⟩
theorem Lm {ts : List Ty} {l : List X} (h : cV ([.str,.row [.str],.row [.str],.int .i64,.row [.str,.str],.str,.int .i64,.int .i64,.int .i64] ++ ts) l) : ∃ (a : Kp) (l' : List X),l = aB .sl a ++ l'∧n6 a∧cV ts l':=by
 simp only [List.cons_append,List.nil_append] at h
 obtain ⟨a1,r1,rfl,b1,h1⟩:=Ln (ts:=_) h
 obtain ⟨y2,r2,rfl,c2,h2⟩:=h1.cons
 obtain ⟨a2,rfl,b2⟩:=j8 c2
 obtain ⟨y3,r3,rfl,c3,h3⟩:=h2.cons
 obtain ⟨a3,rfl,b3⟩:=j8 c3
 exact ⟨⟨a1,a2,a3⟩,r3,by simp,⟨b1,b2,b3⟩,h3⟩
theorem Lq {ts : List Ty} {l : List X} (h : cV ([.int .i64,.str] ++ ts) l) : ∃ (a : Wr) (l' : List X),l = eW a ++ l'∧n8 a∧cV ts l':=by
 simp only [List.cons_append,List.nil_append] at h
 obtain ⟨y1,r1,rfl,c1,h1⟩:=h.cons
 obtain ⟨a1,rfl,b1⟩:=j8 c1
 obtain ⟨y2,r2,rfl,c2,h2⟩:=h1.cons
 obtain ⟨a2,rfl,b2⟩:=jq c2
 exact ⟨⟨a1,a2⟩,r2,by simp,⟨b1,b2⟩,h2⟩
theorem Lj {ts : List Ty} {l : List X} (h : cV ([.row [.str],.row [.int .i64,.str]] ++ ts) l) : ∃ (a : bW) (l' : List X),l = cq .sl a ++ l'∧yP a∧cV ts l':=by
 simp only [List.cons_append,List.nil_append] at h
 obtain ⟨y1,r1,rfl,c1,h1⟩:=h.cons
 obtain ⟨a1,rfl,b1⟩:=mK eS bS c1 fun r hr=>by
  obtain ⟨x,r',rfl,h1,h2⟩:=hr.cons
  obtain rfl:=h2.nil
  obtain ⟨s,rfl,hs⟩:=jq h1
  exact ⟨s,rfl,hs⟩
 obtain ⟨y2,r2,rfl,c2,h2⟩:=h1.cons
 obtain ⟨a2,rfl,b2⟩:=mK eW n8 c2 fun r hr=>by
  obtain ⟨a,l',rfl,h1,h2⟩:=Lq (ts:=[]) (by simpa using hr)
  obtain rfl:=h2.nil
  exact ⟨a,by simp,h1⟩
 exact ⟨⟨a1,a2⟩,r2,by simp,⟨b1,b2⟩,h2⟩
def Sf : List Ty:=[.int .i64,.str,.str,.int .i64]
theorem Ee {ts : List Ty} {l : List X} (h : cV ([.int .i64,.str,.str,.int .i64] ++ ts) l) : ∃ (a : Bn) (l' : List X),l = aM a ++ l'∧jZ a∧cV ts l':=by
 simp only [List.cons_append,List.nil_append] at h
 obtain ⟨y1,r1,rfl,c1,h1⟩:=h.cons
 obtain ⟨a1,rfl,b1⟩:=j8 c1
 obtain ⟨y2,r2,rfl,c2,h2⟩:=h1.cons
 obtain ⟨a2,rfl,b2⟩:=jq c2
 obtain ⟨y3,r3,rfl,c3,h3⟩:=h2.cons
 obtain ⟨a3,rfl,b3⟩:=jq c3
 obtain ⟨y4,r4,rfl,c4,h4⟩:=h3.cons
 obtain ⟨a4,rfl,b4⟩:=j8 c4
 exact ⟨⟨a1,a2,a3,a4⟩,r4,by simp,⟨b1,b2,b3,b4⟩,h4⟩
theorem Wd {x : X} (h : jV (.agg Sf) x) : ∃ a,x = .agg (aM a)∧jZ a:=by
 obtain ⟨l,rfl,hl⟩:=Ed h
 obtain ⟨a,l',rfl,h1,h2⟩:=Ee (ts:=[]) (l:=l) (by rw [List.append_nil]; exact hl)
 obtain rfl:=h2.nil
 exact ⟨a,by simp,h1⟩
def Sg : List Ty:=[.row [.str],.row [.int .i64,.str],.row [.str,.row [.str],.row [.str],.int .i64,.row [.str,.str],.str,.int .i64,.int .i64,.int .i64],.row [.int .i64,.str,.str,.int .i64],.int .i64,.int .i64]
theorem Lp {ts : List Ty} {l : List X} (h : cV ([.row [.str],.row [.int .i64,.str],.row [.str,.row [.str],.row [.str],.int .i64,.row [.str,.str],.str,.int .i64,.int .i64,.int .i64],.row [.int .i64,.str,.str,.int .i64],.int .i64,.int .i64] ++ ts) l) : ∃ (a : Sh) (l' : List X),l = aY .sl a ++ l'∧qo a∧cV ts l':=by
 simp only [List.cons_append,List.nil_append] at h
 obtain ⟨a1,r1,rfl,b1,h1⟩:=Lj (ts:=_) h
 obtain ⟨y2,r2,rfl,c2,h2⟩:=h1.cons
 obtain ⟨a2,rfl,b2⟩:=mK (aB .sl) n6 c2 fun r hr=>by
  obtain ⟨a,l',rfl,h1,h2⟩:=Lm (ts:=[]) (by simpa using hr)
  obtain rfl:=h2.nil
  exact ⟨a,by simp,h1⟩
 obtain ⟨y3,r3,rfl,c3,h3⟩:=h2.cons
 obtain ⟨a3,rfl,b3⟩:=mK aM jZ c3 fun r hr=>by
  obtain ⟨a,l',rfl,h1,h2⟩:=Ee (ts:=[]) (by simpa using hr)
  obtain rfl:=h2.nil
  exact ⟨a,by simp,h1⟩
 obtain ⟨y4,r4,rfl,c4,h4⟩:=h3.cons
 obtain ⟨a4,rfl,b4⟩:=j8 c4
 obtain ⟨y5,r5,rfl,c5,h5⟩:=h4.cons
 obtain ⟨a5,rfl,b5⟩:=j8 c5
 exact ⟨⟨a1,a2,a3,a4,a5⟩,r5,by simp,⟨b1,b2,b3,b4,b5⟩,h5⟩
theorem We {x : X} (h : jV (.agg Sg) x) : ∃ a,x = .agg (aY .sl a)∧qo a:=by
 obtain ⟨l,rfl,hl⟩:=Ed h
 obtain ⟨a,l',rfl,h1,h2⟩:=Lp (ts:=[]) (l:=l) (by rw [List.append_nil]; exact hl)
 obtain rfl:=h2.nil
 exact ⟨a,by simp,h1⟩
end M
namespace M
open Go
def cA {β : Type} (p : β→Bool) : Nat→List β→Option (Nat×β)
 | _,[]=>none
 | i,b :: l=>if p b = true then some (i,b) else cA p (i + 1) l
theorem mN {β : Type} {p : β→Bool} : ∀ {l : List β} {k i : Nat} {b : β},cA p k l = some (i,b)→k≤i∧l[i - k]? = some b∧p b = true
 | b' :: l,k,i,b,h=>by
  unfold cA at h
  split at h
  ·rename_i hp
   cases h
   exact ⟨Nat.le_refl _,by simp,hp⟩
  ·obtain ⟨h1,h2,h3⟩:=mN h
   refine ⟨by omega,?_,h3⟩
   rw [show i - k = (i - (k + 1)) + 1 by omega,List.getElem?_cons_succ]
   exact h2
theorem zB {β : Type} {p : β→Bool} : ∀ {l : List β} {k : Nat},cA p k l = none↔∀ b∈l,¬ p b = true
 | [],k=>by simp [cA]
 | b' :: l,k=>by
  unfold cA
  by_cases hp : p b' = true
  ·simp [hp]
  ·rw [if_neg hp,zB]
   simp [hp]
theorem sP {xt : Nat} {β : Type} {f : ag→bH} (l : List β) (st : Nat→ag) (p : β→Bool) (R : Nat→β→ag) (E : ag)
  (h : ∀ i b,l[i]? = some b→i < l.length→f (st i) = if p b = true then some (.ret,R i b) else some (.normal,st (i + 1)))
  (hend : f (st l.length) = some (.exit xt,E)) :
  aK f (st 0) = (cA p 0 l).elim (some (.exit xt,E)) fun x=>some (.ret,R x.1 x.2):=by
 suffices H : ∀ (r : List β) (i : Nat),l.drop i = r→i≤l.length→aK f (st i) = (cA p i r).elim (some (.exit xt,E)) fun x=>some (.ret,R x.1 x.2) from H l 0 rfl (Nat.zero_le _)
 intro r
 induction r with
 | nil =>
  intro i hr hi
  have : i = l.length:=by
   have:=congrArg List.length hr
   simp at this
   omega
  subst this
  rw [gP,hend]
  rfl
 | cons b r ih =>
  intro i hr hi
  have hb : l[i]? = some b:=by
   have:=congrArg (fun t : List β=>t[0]?) hr
   simpa using this
  have hlt : i < l.length:=(List.getElem?_eq_some_iff.1 hb).1
  have hd : l.drop (i + 1) = r:=by
   have:=congrArg List.tail hr
   simpa using this
  rw [gP,h i b hb hlt]
  unfold cA
  by_cases hp : p b = true
  ·simp [hp,lv]
  ·simp only [hp]
   exact ih (i + 1) hd hlt
theorem o6 {xt : Nat} {β γ : Type} {f : ag→bH} (l : List β) (φ : β→List γ) (st : Nat→List γ→ag) (E : List γ→ag)
  (h : ∀ i b out,l[i]? = some b→i < l.length→out = (l.take i).flatMap φ→f (st i out) = some (.normal,st (i + 1) (out ++ φ b)))
  (hend : ∀ out,out = l.flatMap φ→f (st l.length out) = some (.exit xt,E out)) :
  aK f (st 0 []) = some (.exit xt,E (l.flatMap φ)):=by
 suffices H : ∀ (k i : Nat),i + k = l.length→aK f (st i ((l.take i).flatMap φ)) = some (.exit xt,E (l.flatMap φ)) from H l.length 0 (by omega)
 intro k
 induction k with
 | zero =>
  intro i hi
  obtain rfl : i = l.length:=by omega
  rw [List.take_length,gP,hend _ rfl]
  rfl
 | succ k ih =>
  intro i hi
  have hlt : i < l.length:=by omega
  rw [gP,h i l[i] _ (List.getElem?_eq_getElem hlt) hlt rfl]
  have : (l.take i).flatMap φ ++ φ l[i] = (l.take (i + 1)).flatMap φ:=by
   rw [List.take_succ_eq_append_getElem hlt,List.flatMap_append]
   simp
  simp only [this]
  exact ih (i + 1) (by omega)
theorem zE {β γ : Type} (g : β→γ) (l : List β) : l.flatMap (fun b=>[g b]) = l.map g:=by induction l <;> simp_all
theorem u0 {β γ : Type} (g : β→γ) (l : List β) (i : Nat) (h : i≤l.length) : ((l.take i).flatMap (fun b=>[g b])).length = i:=by rw [zE]; simp; omega
end M
namespace M
open Go
def ja (b : UInt8) : UInt8:=if 65≤b.toNat∧b.toNat≤90 then b + 32 else b
def bY (s : ah) : ah:=s.map ja
def nU (b : UInt8) : Bool:=decide ((97≤b.toNat∧b.toNat≤122)∨(48≤b.toNat∧b.toNat≤57)∨b.toNat = 45)
def ei (s : ah) : Bool:=aS nU s && decide (1≤(s.length : Int)∧(s.length : Int)≤20)
def fX (lo : Nat) (b : UInt8) : Bool:=decide (lo≤b.toNat∧b.toNat≤126)
def dw (s : ah) : ah:=Lib.trimB s 32
def fW (s : ah) : Bool:=aS (fX 32) s && decide (1≤(s.length : Int)∧(s.length : Int)≤60) && decide (dw s = s)
def kG (n : Int) : ah:=if 0≤n∧n≤1000000 then bG n.toNat else []
def gT (s : ah) : Bool:=aS (fX 33) s && decide (1≤(s.length : Int)∧(s.length : Int)≤60) && decide (s[0]?.map (fun b : UInt8=>(b.toNat : Int)) = some 47)
theorem zp {α : Type} (p : α→Bool) : ∀ (a b : List α),(∃ x∈a,p x = false)→(a ++ b).dropWhile p = a.dropWhile p ++ b
 | [],b,h=>by simp at h
 | x :: a,b,h=>by
  simp only [List.cons_append,List.dropWhile_cons]
  by_cases hx : p x = true
  ·simp only [hx,if_true]
   refine zp p a b ?_
   obtain ⟨y,hy,hp⟩:=h
   rcases List.mem_cons.1 hy with rfl | hy
   ·rw [hx] at hp; cases hp
   ·exact ⟨y,hy,hp⟩
  ·simp [hx]
theorem zo {α : Type} (p : α→Bool) : ∀ (a : List α),(∀ x∈a,p x = true)→a.dropWhile p = []
 | [],_=>rfl
 | x :: a,h=>by
  rw [List.dropWhile_cons,if_pos (h x (List.mem_cons_self ..))]
  exact zo p a fun y hy=>h y (List.mem_cons_of_mem _ hy)
theorem zq {α : Type} (p : α→Bool) : ∀ {a : List α} {x : α},x∈a→p x = false→x∈a.dropWhile p
 | y :: a,x,h,hp=>by
  rw [List.dropWhile_cons]
  by_cases hy : p y = true
  ·rw [if_pos hy]
   rcases List.mem_cons.1 h with rfl | h
   ·rw [hy] at hp; cases hp
   ·exact zq p h hp
  ·rw [if_neg hy]; exact h
theorem Ek {α : Type} (p : α→Bool) (l : List α) : ∃ a,l = a ++ l.dropWhile p∧∀ x∈a,p x = true:=by
 refine ⟨l.takeWhile p,(List.takeWhile_append_dropWhile).symm,fun x hx=>?_⟩
 have:=List.all_takeWhile (l:=l) (p:=p)
 exact List.all_eq_true.1 this x hx
theorem UT (p : UInt8→Bool) (l : List UInt8) : (l.reverse.dropWhile p).reverse.dropWhile p = ((l.dropWhile p).reverse.dropWhile p).reverse:=by
 by_cases h : ∃ x∈l,p x = false
 ·obtain ⟨x,hx,hp⟩:=h
  obtain ⟨a,e1,h1⟩:=Ek p l
  have hm : x∈l.dropWhile p:=zq p hx hp
  have e2 : l.reverse.dropWhile p = (l.dropWhile p).reverse.dropWhile p ++ a.reverse:=by
   conv=>lhs; rw [e1,List.reverse_append]
   exact zp p _ _ ⟨x,by simpa using hm,hp⟩
  rw [e2,List.reverse_append,List.reverse_reverse]
  obtain ⟨b,e3,h3⟩:=Ek p (l.dropWhile p).reverse
  generalize hd : (l.dropWhile p).reverse.dropWhile p = d at e3 ⊢
  have OR : ∃ y∈d,p y = false:=⟨x,by rw [← hd]; exact zq p (by simpa using hm) hp,hp⟩
  have e4 : l.dropWhile p = d.reverse ++ b.reverse:=by
   have:=congrArg List.reverse e3
   simpa using this
  have e5 : (a ++ d.reverse).dropWhile p = d.reverse.dropWhile p:=by
   clear e1 e2 e3 hm
   induction a with
   | nil=>rfl
   | cons y a ih =>
    rw [List.cons_append,List.dropWhile_cons,if_pos (h1 y (List.mem_cons_self ..))]
    exact ih fun z hz=>h1 z (List.mem_cons_of_mem _ hz)
  rw [e5]
  have e6 : (l.dropWhile p).dropWhile p = l.dropWhile p:=by
   have : ∀ l : List UInt8,(l.dropWhile p).dropWhile p = l.dropWhile p:=by
    intro l
    induction l with
    | nil=>rfl
    | cons y l ih =>
     rw [List.dropWhile_cons]
     by_cases hy : p y = true
     ·rw [if_pos hy]; exact ih
     ·rw [if_neg hy,List.dropWhile_cons,if_neg hy]
   exact this l
  rw [e4] at e6
  rw [zp p d.reverse b.reverse (by obtain ⟨y,hy,hp⟩:=OR; exact ⟨y,by simpa using hy,hp⟩)] at e6
  exact List.append_cancel_right e6
 ·have h1 : ∀ x∈l,p x = true:=fun x hx=>by
   cases hp : p x with
   | true=>rfl
   | false=>exact absurd ⟨x,hx,hp⟩ h
  rw [zo p l h1,zo p l.reverse (fun x hx=>h1 x (by simpa using hx))]
  rfl
theorem US (s : ah) : dw s = Lib.trimRightB (Lib.trimLeftB s 32) 32:=UT _ s
theorem He (s : ah) : (dw s).length≤s.length:=by
 unfold dw Lib.trimB Lib.trimLeftB Lib.trimRightB
 have h1:=(List.dropWhile_sublist (l:=(List.dropWhile (fun x=>x == 32) s.reverse).reverse) (fun x=>x == (32 : UInt8))).length_le
 have h2:=(List.dropWhile_sublist (l:=s.reverse) (fun x=>x == (32 : UInt8))).length_le
 simp only [List.length_reverse] at h1 h2
 omega
theorem zn (n : Nat) (h : n≤1000000) : (bG n).length≤7:=j9 6 n (by omega)
def cg (c : UInt8) : ah→List ah
 | []=>[[]]
 | b :: s=>if b = c then [] :: cg c s else match cg c s with
  | w :: ws=>(b :: w) :: ws
  | []=>[[b]]
theorem GR (c : UInt8) (s : ah) : cg c s≠[]:=by
 cases s with
 | nil=>simp [cg]
 | cons b s =>
  unfold cg
  split
  ·simp
  ·split <;> simp
def gE (s : ah) : List ah:=((cg 44 s).map dw).filter fun w=>decide (w≠[])
end M
namespace M
open Go Go.RowKit
def qd (w w' : World) (c : C) : Prop:=(∀ Z,c.ok w' Z)∧c.bare∧∀ b k,c.fp b k→w.heap.size≤b
theorem I3 [Bs] {P : Program} {f : FuncId} {xs : List X} {r : X}
  (h : ∀ w zl zb cs,cs.map C.er = xs→kT w zl zb cs→mq w→Calls P f (cs.map C.val).toArray w fun e w'=>∃ c : C,e = .returned c.val∧c.er = r∧Below w.heap.size w w'∧qd w w' c) :
  AC P f xs fun r' ps=>r' = r∧ps = xs.map fun _=>.dead:=by
 intro w zl zb cs e hA jx
 refine (h w zl zb cs e hA fun b hb=>(jx b hb).1).mono fun e' w' ⟨c,he,hc,hb,c1,c2,c3⟩=>?_
 have zW : Ext (fun b k=>∃ x∈cs,x.fp b k) w w':=⟨hb.os,hb.tape,hb.output,hb.size,fun b hl=>.inl (hb.block b hl)⟩
 refine ⟨c,cs.map fun x=>.dead x.val,zl,⟨he,by rw [List.map_map]; rfl,zW,⟨fun x hx'=>?_,fun x hx'=>?_,fun x hx' b k hf=>?_,fun b k hz=>Nat.lt_of_lt_of_le (hA.bF b k (hz.imp id fun h=>h.elim)) hb.size,?_⟩,fun x hx' b k hf=>?_,fun _ _ h=>h,fun _ _ h=>.inl h⟩,hc,?_⟩
 ·rcases List.mem_cons.1 hx' with rfl | hx'
  ·exact c1 _
  ·obtain ⟨y,_,rfl⟩:=List.mem_map.1 hx'; trivial
 ·rcases List.mem_cons.1 hx' with rfl | hx'
  ·exact c2
  ·obtain ⟨y,_,rfl⟩:=List.mem_map.1 hx'; trivial
 ·rcases List.mem_cons.1 hx' with rfl | hx'
  ·have h1:=c3 b k hf
   exact ⟨fun hz=>by have:=hA.bF b k (.inl hz); omega,fun hz=>hz⟩
  ·obtain ⟨y,_,rfl⟩:=List.mem_map.1 hx'; exact hf.elim
 ·refine List.pairwise_cons.2 ⟨fun x hx b k hf hf'=>?_,?_⟩
  ·obtain ⟨y,_,rfl⟩:=List.mem_map.1 hx; exact hf'
  ·refine List.pairwise_iff_getElem.2 fun i j hi hj _ b k hf=>?_
   obtain ⟨y,_,hy⟩:=List.mem_map.1 (List.getElem_mem hi)
   rw [← hy] at hf
   exact hf.elim
 ·rcases List.mem_cons.1 hx' with rfl | hx'
  ·exact .inr (c3 b k hf)
  ·obtain ⟨y,_,rfl⟩:=List.mem_map.1 hx'; exact hf.elim
 ·rw [← e]
  simp [List.map_map,Function.comp_def,C.er]
def fF (f0 : FuncId) (g : List X→Option X) : bz:=fun f xs=>if f = f0 then (match g xs with
 | some r=>some (r,xs.map fun _=>.dead)
 | none=>none) else none
theorem BL [Bs] {P : Program} {f0 : FuncId} {g : List X→Option X}
  (h : ∀ xs r,g xs = some r→∀ w zl zb cs,cs.map C.er = xs→kT w zl zb cs→mq w→Calls P f0 (cs.map C.val).toArray w fun e w'=>∃ c : C,e = .returned c.val∧c.er = r∧Below w.heap.size w w'∧qd w w' c) : (fF f0 g).Sound P:=fun f xs o e=>by
 unfold fF at e
 split at e
 ·rename_i hf
  subst hf
  split at e
  ·rename_i r hr
   cases e
   exact I3 (h xs r hr)
  ·cases e
 ·cases e
theorem EA {c : C} {s : ByteArray} (h : c.er = .str s) : c = .str s:=by cases c <;> simp [C.er] at h; rw [h]
theorem map_nil {l : List C} (h : l.map C.er = []) : l = []:=by simpa using h
theorem map_cons {l : List C} {x : X} {xs : List X} (h : l.map C.er = x :: xs) : ∃ c cs,l = c :: cs∧c.er = x∧cs.map C.er = xs:=by
 cases l with
 | nil=>simp at h
 | cons c cs=>simp at h; exact ⟨c,cs,rfl,h.1,h.2⟩
theorem Om {w w' : World} {s : ByteArray} (h : s.size≤9223372036854775807) : qd w w' (.str s):=⟨fun _=>h,trivial,fun _ _ h=>h.elim⟩
theorem Oj {w w' : World} {b : Bool} : qd w w' (.bool b):=⟨fun _=>trivial,trivial,fun _ _ h=>h.elim⟩
theorem Rv {α β : Type} (l : List α) (d : α) (g : α→β) : ((List.range l.length).map fun j=>g (l.getD j d)) = l.map g:=by
 apply List.ext_getElem
 ·simp
 ·intro i h1 h2
  simp at h1
  simp [h1]
theorem Ol {w w' : World} {g : Nat} {t : TypeId} {l : List ByteArray} (hg : w.heap.size≤g) (hb : w'.heap[g]? = some (.cells (l.map Value.string).toArray t (0,0))) (hs : ∀ s∈l,s.size≤9223372036854775807) :
  qd w w' (.row .own 1 (some (g,0,none)) l.length l.length fun i _=>.str (l.getD i ByteArray.empty)):=by
 have hm : ∀ j,j < l.length→l.getD j ByteArray.empty∈l:=fun j hj=>by simp [List.getD,hj]
 refine ⟨fun Z=>⟨Nat.le_refl _,fun i j hi hj=>⟨g,0,rfl,?_,fun h=>absurd rfl h⟩,fun i j hi hj=>⟨trivial,trivial,trivial,hs _ (hm i hi)⟩,fun _=>.inr ⟨g,0,_,t,(0,0),rfl,hb,?_,fun k _ _=>?_⟩,fun i j hi hj b k hf=>hf.elim⟩,trivial,fun b k hf=>?_⟩
 ·obtain rfl : j = 0:=by omega
  simp only [World.cell?,hb]
  simp [C.val,hi,Go.Value.oneCell']
 ·simp
 ·simp [World.frozen?,hb]
 ·obtain ⟨_,h | ⟨i,j,_,_,h⟩⟩:=hf
  ·obtain ⟨o,h⟩:=h
   have hgb:=congrArg Prod.fst (Option.some.inj h)
   have hgb : g = b:=hgb; exact hgb ▸ hg
  ·exact h.elim
theorem RJ (l : List ByteArray) (g cap : Nat) : (C.row .own 1 (some (g,0,none)) l.length cap fun i _=>.str (l.getD i ByteArray.empty)).er = .row .own 1 (l.map fun s=>[.str s]):=by
 show X.row _ _ _ = _
 congr 1
 have:=Rv l ByteArray.empty fun s=>[X.str s]
 rw [← this]
 rfl
end M
namespace M
open Go
def GW (s : ah) : X:=.str ⟨s.toArray⟩
def B1 (l : List ah) : X:=.row .own 1 (l.map eS)
def yp : List X→Option X
 | [.str s,.str c]=>if c.data.toList = [32]∧s.size≤9223372036854775807 then some (GW (dw s.data.toList)) else none
 | _=>none
def yd : List X→Option X
 | [.str s,.str c]=>if s.size < 4294967281∧1≤c.size then some (B1 (Lib.split s.data.toList c.data.toList)) else none
 | _=>none
def vj : List X→Option X
 | [.str s,.str c]=>some (.bool (Lib.hasPrefix s.data.toList c.data.toList))
 | _=>none
def LM (f : aP) : ah:=f.name ++ [58,32] ++ f.value ++ [13,10]
def LN (l : List aP) : ah:=l.flatMap LM
theorem count_nil (c : UInt8) : Lib.count [] [c] = 0:=by rw [Lib.count_one]; rfl
theorem R6 (c : UInt8) : ∀ s : ah,Lib.split s [c] = cg c s:=by
 have key : ∀ (n : Nat) (s : ah),s.length≤n→Lib.splitK [c] 0 (Lib.count s [c]) s = cg c s:=by
  intro n
  induction n with
  | zero =>
   intro s hs
   obtain rfl : s = []:=List.length_eq_zero_iff.1 (by omega)
   rw [count_nil]
   rfl
  | succ n ih =>
   intro s hs
   cases s with
   | nil=>rw [count_nil]; rfl
   | cons b s =>
    simp at hs
    have v7:=ih s (by omega)
    by_cases hb : b = c
    ·subst hb
     rw [Lib.count_cons_eq,Nat.add_comm]
     have hi : Lib.index (b :: s) [b] = 0:=Lib.index_first (i:=0) (Nat.zero_le _) (by simp [Lib.occAt]) (fun _ h=>absurd h (Nat.not_lt_zero _))
     simp only [Lib.splitK,hi,cg]
     simp [v7]
    ·rw [Lib.count_cons_ne _ _ _ hb]
     have hnext : Lib.index (b :: s) [c] = if Lib.index s [c] = -1 then -1 else Lib.index s [c] + 1:=by
      have h:=Lib.index_drop (s:=b :: s) (sub:=[c]) (i:=1) (fun j hj=>by
       obtain rfl : j = 0:=by omega
       simp [Lib.occAt,List.isPrefixOf,Ne.symm hb]) (by simp)
      simp at h
      exact h
     rw [cg,if_neg hb,← v7]
     cases hk : Lib.count s [c] with
     | zero=>simp [Lib.splitK]
     | succ k =>
      simp only [Lib.splitK,hnext]
      by_cases h1 : Lib.index s [c] = -1
      ·simp [h1]
      ·have h0 : 0≤Lib.index s [c]:=by
        have : -1≤Lib.index s [c]:=Lib.index_ge _ _
        omega
       have h2 : ¬ Lib.index s [c] + 1 = -1:=by omega
       have h3 : (Lib.index s [c] + 1).toNat = (Lib.index s [c]).toNat + 1:=by omega
       simp [h1,h2,h3]
 intro s
 exact key s.length s (Nat.le_refl _)
end M
namespace M
open Go
def cG {β : Type} (p : β→Bool) (l : List β) : Nat:=(l.takeWhile fun b=>!p b).length
theorem FX {β : Type} {f : ag→bH} (l : List β) (st : Nat→ag) (p : β→Bool) (E : Nat→ag) {x : Nat}
  (h : ∀ i b,l[i]? = some b→i < l.length→f (st i) = if p b = true then some (.exit x,E i) else some (.normal,st (i + 1)))
  (hend : f (st l.length) = some (.exit x,E l.length)) : aK f (st 0) = some (.exit x,E (cG p l)):=by
 suffices H : ∀ (r : List β) (i : Nat),l.drop i = r→i≤l.length→aK f (st i) = some (.exit x,E (i + cG p r)) by
  have:=H l 0 rfl (Nat.zero_le _)
  rwa [Nat.zero_add] at this
 intro r
 induction r with
 | nil =>
  intro i hr hi
  have : i = l.length:=by
   have:=congrArg List.length hr
   simp at this
   omega
  subst this
  rw [gP,hend]
  rfl
 | cons b r ih =>
  intro i hr hi
  have hb : l[i]? = some b:=by
   have:=congrArg (fun t : List β=>t[0]?) hr
   simpa using this
  have hlt : i < l.length:=(List.getElem?_eq_some_iff.1 hb).1
  have hd : l.drop (i + 1) = r:=by
   have:=congrArg List.tail hr
   simpa using this
  rw [gP,h i b hb hlt]
  unfold cG
  by_cases hp : p b = true
  ·simp [hp,cT]
  ·have:=ih (i + 1) hd hlt
   simp only [hp]
   have e : i + 1 + cG p r = i + (cG p r + 1):=by omega
   rw [e] at this
   simp [hp,cT,this,cG]
theorem yu {β : Type} (p : β→Bool) (l : List β) : cG p l≤l.length:=by
 unfold cG
 exact (List.takeWhile_sublist _).length_le
theorem Hj {β : Type} (p : β→Bool) : ∀ (l : List β) (j : Nat) (b : β),j < cG p l→l[j]? = some b→p b = false
 | [],j,b,h,_=>by simp [cG] at h
 | a :: l,j,b,h,hb=>by
  unfold cG at h
  rw [List.takeWhile_cons] at h
  by_cases hp : p a = true
  ·simp [hp] at h
  ·simp only [hp,Bool.not_false,if_true,List.length_cons] at h
   cases j with
   | zero=>simp at hb; subst hb; simpa using hp
   | succ j=>exact Hj p l j b (by unfold cG; omega) (by simpa using hb)
theorem Hi {β : Type} (p : β→Bool) : ∀ (l : List β) (b : β),l[cG p l]? = some b→p b = true
 | [],b,h=>by simp at h
 | a :: l,b,h=>by
  unfold cG at h
  rw [List.takeWhile_cons] at h
  by_cases hp : p a = true
  ·simp [hp] at h; subst h; exact hp
  ·simp only [hp,Bool.not_false,if_true,List.length_cons,List.getElem?_cons_succ] at h
   exact Hi p l b h
def fm (c : UInt8) (f : ah→List ah) (s : ah) (i : Nat) (g : List ah×Nat) (b : Option UInt8) : List ah×Nat:=match b with
 | some b=>if b = c then (g.1 ++ f ((s.take i).drop g.2),i + 1) else g
 | none=>(g.1 ++ f ((s.take i).drop g.2),i + 1)
theorem CM (c : UInt8) : ∀ (cur rest : ah),(∀ b∈cur,b≠c)→cg c (cur ++ rest) = match cg c rest with
  | w :: ws=>(cur ++ w) :: ws
  | []=>[cur]
 | [],rest,_=>by
  cases h : cg c rest with
  | nil=>exact absurd h (GR c rest)
  | cons w ws=>simpa using h
 | a :: cur,rest,h=>by
  rw [List.cons_append,cg,if_neg (h a (List.mem_cons_self ..)),CM c cur rest fun b hb=>h b (List.mem_cons_of_mem _ hb)]
  cases cg c rest <;> simp
theorem R4 (c : UInt8) (cur : ah) (h : ∀ b∈cur,b≠c) : cg c cur = [cur]:=by
 have:=CM c cur [] h
 simpa [cg] using this
theorem CQ : ∀ (p cur rest : ah),((p ++ (cur ++ rest)).take (p.length + cur.length)).drop p.length = cur
 | [],cur,rest=>by simp
 | a :: p,cur,rest=>by
  have:=CQ p cur rest
  simp only [List.length_cons,List.cons_append,show p.length + 1 + cur.length = p.length + cur.length + 1 by omega,List.take_succ_cons,List.drop_succ_cons]
  exact this
theorem Oi (c : UInt8) (f : ah→List ah) (s : ah) : foldI (fm c f s) 0 (s.map some ++ [none]) ([],0) = ((cg c s).flatMap f,s.length + 1):=by
 suffices H : ∀ (rest p cur : ah) (out : List ah),s = p ++ cur ++ rest→(∀ b∈cur,b≠c)→foldI (fm c f s) (p.length + cur.length) (rest.map some ++ [none]) (out,p.length) = (out ++ (cg c (cur ++ rest)).flatMap f,s.length + 1) by
  have:=H s [] [] [] rfl (by simp)
  simpa using this
 intro rest
 induction rest with
 | nil =>
  intro p cur out hs hc
  simp only [List.append_nil] at hs ⊢
  rw [R4 c cur hc]
  subst hs
  have e1:=CQ p cur []
  rw [List.append_nil] at e1
  simp [foldI,fm,e1]
 | cons b rest ih =>
  intro p cur out hs hc
  simp only [List.map_cons,List.cons_append,foldI]
  by_cases hb : b = c
  ·subst hb
   have e1 : (s.take (p.length + cur.length)).drop p.length = cur:=by subst hs; have:=CQ p cur (b :: rest); rwa [← List.append_assoc] at this
   have:=ih (p ++ cur ++ [b]) [] (out ++ f cur) (by simp [hs]) (by simp)
   simp only [List.length_append,List.length_cons,List.length_nil,List.nil_append] at this
   simp only [fm,if_true,e1]
   rw [show p.length + cur.length + 1 = p.length + cur.length + (0 + 1) + 0 by omega,this,CM b cur (b :: rest) hc]
   simp [cg]
  ·have:=ih p (cur ++ [b]) out (by simp [hs]) (by
    intro x hx
    rcases List.mem_append.1 hx with hx | hx
    ·exact hc x hx
    ·rw [List.mem_singleton.1 hx]; exact hb)
   simp only [List.length_append,List.length_cons,List.length_nil] at this
   simp only [fm,hb,if_false]
   rw [show p.length + cur.length + 1 = p.length + (cur.length + (0 + 1)) by omega,this]
   simp
theorem Hp (s : ah) : gE s = (cg 44 s).flatMap fun w=>if dw w≠[] then [dw w] else []:=by
 unfold gE
 induction cg 44 s with
 | nil=>rfl
 | cons w l ih =>
  simp only [List.map_cons,List.filter_cons,List.flatMap_cons,← ih]
  by_cases h : dw w = [] <;> simp [h]
@[simp] theorem WH (l : List UInt8) : l.map (fun b : UInt8=>[X.int IntKind.u8 (b.toNat : Int)]) = l.map eU:=rfl
@[simp] theorem YF (l : List UInt8) : mb (l.map eU) = some l:=Hh l
theorem CP (c : UInt8) : ∀ s : ah,((cg c s).map List.length).sum + (cg c s).length = s.length + 1
 | []=>rfl
 | b :: s=>by
  have:=CP c s
  unfold cg
  split
  ·simp; omega
  ·cases h : cg c s with
   | nil=>exact absurd h (GR c s)
   | cons w ws=>rw [h] at this; simp at this ⊢; omega
theorem GP (c : UInt8) (s : ah) : (cg c s).length≤s.length + 1:=by have:=CP c s; omega
theorem GQ (c : UInt8) (s : ah) : ∀ w∈cg c s,w.length≤s.length:=by
 intro w hw
 have h:=CP c s
 have h1 : w.length + 1≤((cg c s).map List.length).sum + (cg c s).length:=by
  clear h
  revert hw
  generalize cg c s = l
  intro hw
  induction l with
  | nil=>cases hw
  | cons x l ih =>
   rcases List.mem_cons.1 hw with rfl | hw
   ·simp; omega
   ·have:=ih hw; simp; omega
 omega
theorem FY (b : UInt8) (h : 65≤b.toNat∧b.toNat≤90) : (b + 32).toNat = b.toNat + 32:=by
 rw [UInt8.toNat_add]
 have : (32 : UInt8).toNat = 32:=rfl
 omega
theorem Hs {n : Int} (h1 : 0≤n) (h2 : n < 256) : IntKind.u8.wrap n = n:=yC h1 h2
end M
namespace M
theorem EN {β γ : Type} (φ : β→List γ) (hφ : ∀ b,(φ b).length≤1) (l : List β) (i : Nat) : ((l.take i).flatMap φ).length≤i:=by
 induction l generalizing i with
 | nil=>simp
 | cons b l ih =>
  cases i with
  | zero=>simp
  | succ i =>
   have:=ih i
   have:=hφ b
   simp only [List.take_succ_cons,List.flatMap_cons,List.length_append]
   omega
end M
namespace M
@[simp] theorem VG (i : Nat) : ((i : Int) < 0) = False:=by simp
end M
namespace M
def fD {α : Type} (f : α→α) (l : List α) (i : Nat) : List α:=(l.take i).map f ++ l.drop i
@[simp] theorem Xv {α : Type} (f : α→α) (l : List α) (i : Nat) : (fD f l i).length = l.length:=by simp [fD]; omega
theorem Qb {α : Type} (f : α→α) (l : List α) : fD f l 0 = l:=by simp [fD]
theorem P7 {α : Type} (f : α→α) (l : List α) : fD f l l.length = l.map f:=by simp [fD]
theorem P8 {α : Type} (f : α→α) (l : List α) (i : Nat) (h : i < l.length) : (fD f l i)[i]? = some l[i]:=by
 unfold fD
 rw [List.getElem?_append_right (by simp; omega)]
 have : i - ((l.take i).map f).length = 0:=by simp; omega
 rw [this]
 simp [h]
theorem P9 {α : Type} (f : α→α) (l : List α) (i : Nat) (h : i < l.length) (h' : i < (fD f l i).length) : (fD f l i)[i] = l[i]:=by
 have:=P8 f l i h
 rw [List.getElem?_eq_getElem h'] at this
 exact Option.some.inj this
theorem Qa {α : Type} (f : α→α) (l : List α) (i : Nat) (h : i < l.length) : (fD f l i).set i (f l[i]) = fD f l (i + 1):=by
 unfold fD
 rw [List.set_append_right _ _ (by simp; omega),List.drop_eq_getElem_cons h]
 have : i - ((l.take i).map f).length = 0:=by simp; omega
 rw [this,List.take_succ_eq_append_getElem h]
 simp only [List.set_cons_zero,List.map_append,List.map_cons,List.map_nil,List.append_assoc,List.cons_append,List.nil_append]
end M
namespace M
@[simp] theorem Qe (m : Md) : ∀ (i : Nat) (l : List (List X)),X.bu m (l.take i) = (X.bu m l).take i
 | 0,l=>by simp [X.bu]
 | i + 1,[]=>by simp [X.bu]
 | i + 1,a :: l=>by simp [X.bu,Qe m i l]
@[simp] theorem Qd (m : Md) : ∀ (i : Nat) (l : List (List X)),X.bu m (l.drop i) = (X.bu m l).drop i
 | 0,l=>by simp
 | i + 1,[]=>by simp [X.bu]
 | i + 1,a :: l=>by simp [X.bu,Qd m i l]
end M
namespace M
open Go
abbrev pF : ah:=[99,111,110,116,101,110,116,45,108,101,110,103,116,104]
abbrev fU : ah:=[118,97,114,121]
theorem yB {l : List ah} {a : ah} (h : a∈l) : a.length≤wL wS l:=gD (w:=wS) h
theorem C0 {l : List aP} {a : aP} (h : a∈l) : a.name.length + a.value.length≤wL aU l:=gD (w:=aU) h
def fJ (fs : List aP) (n : ah) : Option (Nat×aP):=cA (fun f=>decide (f.name = n)) 0 fs
def fY (o : Option (Nat×aP)) : Int:=o.elim (-1) fun x=>(x.1 : Int)
def cP (fs : List aP) (n : ah) : Option ah:=(fJ fs n).map fun x=>x.2.value
theorem Jg {fs : List aP} {n : ah} {i : Nat} {f : aP} (h : fJ fs n = some (i,f)) : ∃ hi : i < fs.length,fs[i] = f∧f.name = n:=by
 obtain ⟨_,h2,h3⟩:=mN h
 simp at h2 h3
 obtain ⟨hi,e⟩:=List.getElem?_eq_some_iff.1 h2
 exact ⟨hi,e,h3⟩
theorem zM (fs : List aP) (n : ah) : ((cP fs n).getD []).length≤wL aU fs:=by
 unfold cP
 cases h : fJ fs n with
 | none=>simp
 | some x =>
  obtain ⟨i,f⟩:=x
  obtain ⟨hi,rfl,_⟩:=Jg h
  have:=C0 (List.getElem_mem hi)
  simp
  omega
def fN (fs : List aP) (x : aP×Nat) : Bool:=ei x.1.name && fW x.1.value && decide (fY (fJ fs x.1.name) = x.2) && !decide (x.1.name = pF)
def mL (fs : List aP) : Bool:=aS (fN fs) fs.zipIdx && decide ((fs.length : Int)≤8)
def kL (r : cz) : Bool:=decide (100≤r.status∧r.status≤599) && mL r.fields && decide ((r.body.length : Int)≤120)
def jl (fs : List aP) : List ah:=(gE ((cP fs fU).getD [])).map bY
def xd (l : List ah) : Bool:=aS ei l && decide ((l.length : Int)≤4)
def je (o : Ob) : Bool:=kL o.resp && gT o.path && decide (0≤o.t∧o.t≤1000000) && xd o.names && decide (o.names = jl o.resp.fields) && decide (o.values.length = o.names.length) && aS fW o.values
def dj (b : Bn) : Bool:=decide (0≤b.t∧b.t≤1000000) && (if b.kind = 1∨b.kind = 2 then gT b.a && decide (b.b = []) else if b.kind = 3 then ei b.a && fW b.b else false)
def iy (b : Bn) (o : Ob) : Bool:=decide (o.t≤b.t) && dj b && je o && (if b.kind = 1 then decide (o.path = b.a) else if b.kind = 2 then b.a.isPrefixOf o.path else decide (cP o.resp.fields b.a = some b.b))
def gu (l : List Bn) (o : Ob) : Bool:=l.any fun b=>iy b o
def jI (w : Wr) : Bool:=decide (0≤w.at_∧w.at_≤19)
def dc (d : bW) : Bool:=aS jI d.pending && decide ((d.cells.length : Int) = 20) && decide ((d.pending.length : Int)≤16)
def jh (l : List Kp) (i : Nat) : Int:=if i = 0 then 0 else (l[i - 1]?.map fun k=>k.seq).getD 0
def nu (S : Int) (l : List Kp) (x : Kp×Nat) : Bool:=je x.1.obj && decide (5≤x.1.at_∧x.1.at_≤19) && aS (fun y=>decide ¬ y.at_ = x.1.at_) (l.take x.2) && decide (jh l x.2 < x.1.seq) && decide (x.1.seq < S)
def gO (S : Int) (l : List Kp) (x : Kp×Nat) : Bool:=je x.1.obj && decide (5≤x.1.at_∧x.1.at_≤19) && decide (1≤x.1.seq∧x.1.seq≤S - 1) && decide (x.2 = 0∨jh l x.2 < x.1.seq) && aS (fun y=>decide ¬ y.at_ = x.1.at_) (l.take x.2)
def pG (S : Int) (l : List Kp) : Bool:=aS (nu S l) l.zipIdx
theorem BU (l : List Kp) (i : Nat) (h : i < l.length) : jh l (i + 1) = l[i].seq:=by simp [jh,h]
theorem P2 (S : Int) (l : List Kp) : aS (gO S l) l.zipIdx = pG S l:=by
 unfold pG
 rw [Bool.eq_iff_iff,yL,yL]
 have hm : ∀ x∈l.zipIdx,∃ h : x.2 < l.length,x.1 = l[x.2]:=fun x hx=>by
  obtain ⟨i,hi,rfl⟩:=List.getElem_of_mem hx
  simp at hi
  exact ⟨by simpa using hi,by simp⟩
 have hz : ∀ i (h : i < l.length),(l[i],i)∈l.zipIdx:=fun i h=>by
  have : (l.zipIdx)[i]'(by simpa using h) = (l[i],i):=by simp
  rw [← this]; exact List.getElem_mem _
 constructor
 ·intro h x hx
  have h1:=h x hx
  simp only [gO,nu,Bool.and_eq_true,decide_eq_true_eq] at h1 ⊢
  obtain ⟨⟨⟨⟨a,b⟩,c⟩,d⟩,e⟩:=h1
  refine ⟨⟨⟨⟨a,b⟩,e⟩,?_⟩,by omega⟩
  rcases d with d | d
  ·rw [d]
   have : jh l 0 = 0:=rfl
   omega
  ·exact d
 ·intro h
  have pos : ∀ i (hi : i < l.length),1≤l[i].seq:=by
   intro i
   induction i with
   | zero =>
    intro hi
    have h1:=h _ (hz 0 hi)
    simp only [nu,Bool.and_eq_true,decide_eq_true_eq] at h1
    have : jh l 0 = 0:=rfl
    omega
   | succ i ih =>
    intro hi
    have h1:=h _ (hz (i + 1) hi)
    simp only [nu,Bool.and_eq_true,decide_eq_true_eq] at h1
    have h2:=BU l i (by omega)
    have h3:=ih (by omega)
    omega
  intro x hx
  have h1:=h x hx
  obtain ⟨hl,e⟩:=hm x hx
  have h2:=pos x.2 hl
  rw [← e] at h2
  simp only [gO,nu,Bool.and_eq_true,decide_eq_true_eq] at h1 ⊢
  obtain ⟨⟨⟨⟨a,b⟩,c⟩,d⟩,f⟩:=h1
  exact ⟨⟨⟨⟨a,b⟩,by omega⟩,.inr d⟩,c⟩
theorem EK {β : Type} (p : β→Bool) : ∀ (l : List β) (k : Nat),(cA p k l).isSome = !aS (fun b=>!p b) l
 | [],_=>rfl
 | b :: l,k=>by
  unfold cA aS
  by_cases h : p b = true
  ·simp [h]
  ·have:=EK p l (k + 1)
   unfold aS at this
   simp [h,this]
theorem p9 {l : List Kp} {k : Kp} (h : k∈l) : b7 k.obj≤wL aR l:=gD (w:=aR) h
theorem yx {l : List Bn} {b : Bn} (h : b∈l) : aH b≤wL aH l:=gD (w:=aH) h
def dV (s : Sh) : Bool:=dc s.aG && decide ((s.aD.length : Int)≤5) && decide (5≤s.next∧s.next≤19) && decide (1≤s.seq∧s.seq≤100000) && aS dj s.aD && pG s.seq s.ay
end M
namespace M
open Go
def cw (_ : Int) (k : Int) : Int:=k
def bE (_ : ah) (k : Int) : ah:=nC k
def iC (_ : Bool) (k : Int) : Bool:=decide (k.tmod 3 = 0)
def aC {α : Type} (_ : α) : Nat:=1
def aQ {α : Type} (mk : α→Int→α) (n : α→Nat) : List α→Int→List α
 | [],_=>[]
 | a :: l,k=>mk a k :: aQ mk n l (k + (n a : Nat))
def nL {α : Type} (n : α→Nat) (l : List α) : Nat:=(l.map n).sum
@[simp] theorem Qj {α : Type} (mk : α→Int→α) (n : α→Nat) : ∀ (l : List α) (k : Int),(aQ mk n l k).length = l.length
 | [],_=>rfl
 | a :: l,k=>by simp [aQ,Qj mk n l]
theorem jd {α : Type} (n : α→Nat) (l : List α) (i : Nat) (h : i < l.length) : nL n (l.take (i + 1)) = nL n (l.take i) + n l[i]:=by
 unfold nL
 rw [List.take_succ_eq_append_getElem h,List.map_append,List.sum_append]
 simp
theorem jc {α : Type} (mk : α→Int→α) (n : α→Nat) : ∀ (l : List α) (k : Int) (i : Nat) (h : i < l.length) (h' : i < (aQ mk n l k).length),(aQ mk n l k)[i] = mk l[i] (k + (nL n (l.take i) : Nat))
 | a :: l,k,0,_,_=>by simp [aQ,nL]
 | a :: l,k,i + 1,h,h'=>by
  have h1:=jc mk n l (k + (n a : Nat)) i (by simpa using h) (by simp at h ⊢; omega)
  simp only [aQ,List.getElem_cons_succ,List.take_succ_cons,h1]
  congr 1
  simp [nL]; omega
theorem jH {α : Type} (n : α→Nat) (l : List α) (i : Nat) (h : i < l.length) : nL n (l.take i) + n l[i]≤nL n l:=by
 rw [← jd n l i h]
 unfold nL
 conv=>rhs; rw [← List.take_append_drop (i + 1) l]
 rw [List.map_append,List.sum_append]
 omega
theorem Qr {α : Type} (l : List α) : nL (aC : α→Nat) l = l.length:=by
 unfold nL aC
 induction l with
 | nil=>rfl
 | cons a l ih=>simp only [List.map_cons,List.sum_cons,List.length_cons,ih]; omega
theorem jG {α : Type} (n : α→Nat) (h : ∀ a,1≤n a) (l : List α) : l.length≤nL n l:=by
 unfold nL
 induction l with
 | nil=>simp
 | cons a l ih=>have:=h a; simp; omega
theorem xb {α : Type} (n w : α→Nat) (h : ∀ a,n a≤20 + 20 * w a) (l : List α) : nL n l≤20 * wL w l:=by
 unfold nL wL
 induction l with
 | nil=>simp
 | cons a l ih=>have:=h a; simp at ih ⊢; omega
theorem BK {α : Type} (w : α→Nat) (l : List α) : nL (aC : α→Nat) l≤20 * wL w l:=by
 rw [Qr]; unfold wL; omega
def dr (a : aP) (k : Int) : aP:=⟨bE a.name (k),bE a.value (k + 1)⟩
def aE (a : aP) : Nat:=2
theorem D8 (a : aP) : 1≤aE a:=by unfold aE; omega
theorem Le (a : aP) : aE a≤20 + 20 * aU a:=by
 unfold aE
 skip
 simp only [aU]
 omega
def gS (a : Wr) (k : Int) : Wr:=⟨cw a.at_ (k),bE a.text (k + 1)⟩
def bR (a : Wr) : Nat:=2
theorem Eb (a : Wr) : 1≤bR a:=by unfold bR; omega
theorem Lh (a : Wr) : bR a≤20 + 20 * bk a:=by
 unfold bR
 skip
 simp only [bk]
 omega
def gR (a : Kp) (k : Int) : Kp:=⟨⟨bE a.obj.path (k),aQ bE aC a.obj.names (k + 1),aQ bE aC a.obj.values (k + 1 + (nL aC a.obj.names : Nat)),⟨cw a.obj.resp.status (k + 1 + (nL aC a.obj.names : Nat) + (nL aC a.obj.values : Nat)),aQ dr aE a.obj.resp.fields (k + 1 + (nL aC a.obj.names : Nat) + (nL aC a.obj.values : Nat) + 1),bE a.obj.resp.body (k + 1 + (nL aC a.obj.names : Nat) + (nL aC a.obj.values : Nat) + 1 + (nL aE a.obj.resp.fields : Nat))⟩,cw a.obj.t (k + 1 + (nL aC a.obj.names : Nat) + (nL aC a.obj.values : Nat) + 1 + (nL aE a.obj.resp.fields : Nat) + 1)⟩,cw a.at_ (k + 1 + (nL aC a.obj.names : Nat) + (nL aC a.obj.values : Nat) + 1 + (nL aE a.obj.resp.fields : Nat) + 1 + 1),cw a.seq (k + 1 + (nL aC a.obj.names : Nat) + (nL aC a.obj.values : Nat) + 1 + (nL aE a.obj.resp.fields : Nat) + 1 + 1 + 1)⟩
def bN (a : Kp) : Nat:=6 + nL aC a.obj.names + nL aC a.obj.values + nL aE a.obj.resp.fields
theorem D9 (a : Kp) : 1≤bN a:=by unfold bN; omega
theorem Lf (a : Kp) : bN a≤20 + 20 * aR a:=by
 unfold bN
 have:=BK wS a.obj.names
 have:=BK wS a.obj.values
 have:=xb aE aU Le a.obj.resp.fields
 simp only [aR,b7,ct]
 omega
def gQ (a : Bn) (k : Int) : Bn:=⟨cw a.kind (k),bE a.a (k + 1),bE a.b (k + 1 + 1),cw a.t (k + 1 + 1 + 1)⟩
def bQ (a : Bn) : Nat:=4
theorem D7 (a : Bn) : 1≤bQ a:=by unfold bQ; omega
theorem Ld (a : Bn) : bQ a≤20 + 20 * aH a:=by
 unfold bQ
 skip
 simp only [aH]
 omega
def Qk (a : Fl) (k : Int) : Fl:=⟨⟨cw a.q.method (k),bE a.q.path (k + 1),aQ dr aE a.q.fields (k + 1 + 1),bE a.q.body (k + 1 + 1 + (nL aE a.q.fields : Nat))⟩,aQ cw aC a.who (k + 1 + 1 + (nL aE a.q.fields : Nat) + 1),⟨bE a.old.path (k + 1 + 1 + (nL aE a.q.fields : Nat) + 1 + (nL aC a.who : Nat)),aQ bE aC a.old.names (k + 1 + 1 + (nL aE a.q.fields : Nat) + 1 + (nL aC a.who : Nat) + 1),aQ bE aC a.old.values (k + 1 + 1 + (nL aE a.q.fields : Nat) + 1 + (nL aC a.who : Nat) + 1 + (nL aC a.old.names : Nat)),⟨cw a.old.resp.status (k + 1 + 1 + (nL aE a.q.fields : Nat) + 1 + (nL aC a.who : Nat) + 1 + (nL aC a.old.names : Nat) + (nL aC a.old.values : Nat)),aQ dr aE a.old.resp.fields (k + 1 + 1 + (nL aE a.q.fields : Nat) + 1 + (nL aC a.who : Nat) + 1 + (nL aC a.old.names : Nat) + (nL aC a.old.values : Nat) + 1),bE a.old.resp.body (k + 1 + 1 + (nL aE a.q.fields : Nat) + 1 + (nL aC a.who : Nat) + 1 + (nL aC a.old.names : Nat) + (nL aC a.old.values : Nat) + 1 + (nL aE a.old.resp.fields : Nat))⟩,cw a.old.t (k + 1 + 1 + (nL aE a.q.fields : Nat) + 1 + (nL aC a.who : Nat) + 1 + (nL aC a.old.names : Nat) + (nL aC a.old.values : Nat) + 1 + (nL aE a.old.resp.fields : Nat) + 1)⟩,iC a.zR (k + 1 + 1 + (nL aE a.q.fields : Nat) + 1 + (nL aC a.who : Nat) + 1 + (nL aC a.old.names : Nat) + (nL aC a.old.values : Nat) + 1 + (nL aE a.old.resp.fields : Nat) + 1 + 1)⟩
def zm (a : Fl) : Nat:=8 + nL aE a.q.fields + nL aC a.who + nL aC a.old.names + nL aC a.old.values + nL aE a.old.resp.fields
def Qm (a : Se) (k : Int) : Se:=⟨⟨cw a.q.method (k),bE a.q.path (k + 1),aQ dr aE a.q.fields (k + 1 + 1),bE a.q.body (k + 1 + 1 + (nL aE a.q.fields : Nat))⟩,⟨cw a.resp.status (k + 1 + 1 + (nL aE a.q.fields : Nat) + 1),aQ dr aE a.resp.fields (k + 1 + 1 + (nL aE a.q.fields : Nat) + 1 + 1),bE a.resp.body (k + 1 + 1 + (nL aE a.q.fields : Nat) + 1 + 1 + (nL aE a.resp.fields : Nat))⟩,cw a.t (k + 1 + 1 + (nL aE a.q.fields : Nat) + 1 + 1 + (nL aE a.resp.fields : Nat) + 1)⟩
def Ea (a : Se) : Nat:=6 + nL aE a.q.fields + nL aE a.resp.fields
def Ql (a : Rp) (k : Int) : Rp:=⟨cw a.client (k),⟨cw a.q.method (k + 1),bE a.q.path (k + 1 + 1),aQ dr aE a.q.fields (k + 1 + 1 + 1),bE a.q.body (k + 1 + 1 + 1 + (nL aE a.q.fields : Nat))⟩,⟨cw a.resp.status (k + 1 + 1 + 1 + (nL aE a.q.fields : Nat) + 1),aQ dr aE a.resp.fields (k + 1 + 1 + 1 + (nL aE a.q.fields : Nat) + 1 + 1),bE a.resp.body (k + 1 + 1 + 1 + (nL aE a.q.fields : Nat) + 1 + 1 + (nL aE a.resp.fields : Nat))⟩,cw a.kind (k + 1 + 1 + 1 + (nL aE a.q.fields : Nat) + 1 + 1 + (nL aE a.resp.fields : Nat) + 1),cw a.t (k + 1 + 1 + 1 + (nL aE a.q.fields : Nat) + 1 + 1 + (nL aE a.resp.fields : Nat) + 1 + 1),⟨bE a.obj.path (k + 1 + 1 + 1 + (nL aE a.q.fields : Nat) + 1 + 1 + (nL aE a.resp.fields : Nat) + 1 + 1 + 1),aQ bE aC a.obj.names (k + 1 + 1 + 1 + (nL aE a.q.fields : Nat) + 1 + 1 + (nL aE a.resp.fields : Nat) + 1 + 1 + 1 + 1),aQ bE aC a.obj.values (k + 1 + 1 + 1 + (nL aE a.q.fields : Nat) + 1 + 1 + (nL aE a.resp.fields : Nat) + 1 + 1 + 1 + 1 + (nL aC a.obj.names : Nat)),⟨cw a.obj.resp.status (k + 1 + 1 + 1 + (nL aE a.q.fields : Nat) + 1 + 1 + (nL aE a.resp.fields : Nat) + 1 + 1 + 1 + 1 + (nL aC a.obj.names : Nat) + (nL aC a.obj.values : Nat)),aQ dr aE a.obj.resp.fields (k + 1 + 1 + 1 + (nL aE a.q.fields : Nat) + 1 + 1 + (nL aE a.resp.fields : Nat) + 1 + 1 + 1 + 1 + (nL aC a.obj.names : Nat) + (nL aC a.obj.values : Nat) + 1),bE a.obj.resp.body (k + 1 + 1 + 1 + (nL aE a.q.fields : Nat) + 1 + 1 + (nL aE a.resp.fields : Nat) + 1 + 1 + 1 + 1 + (nL aC a.obj.names : Nat) + (nL aC a.obj.values : Nat) + 1 + (nL aE a.obj.resp.fields : Nat))⟩,cw a.obj.t (k + 1 + 1 + 1 + (nL aE a.q.fields : Nat) + 1 + 1 + (nL aE a.resp.fields : Nat) + 1 + 1 + 1 + 1 + (nL aC a.obj.names : Nat) + (nL aC a.obj.values : Nat) + 1 + (nL aE a.obj.resp.fields : Nat) + 1)⟩,cw a.aD (k + 1 + 1 + 1 + (nL aE a.q.fields : Nat) + 1 + 1 + (nL aE a.resp.fields : Nat) + 1 + 1 + 1 + 1 + (nL aC a.obj.names : Nat) + (nL aC a.obj.values : Nat) + 1 + (nL aE a.obj.resp.fields : Nat) + 1 + 1)⟩
def Lg (a : Rp) : Nat:=13 + nL aE a.q.fields + nL aE a.resp.fields + nL aC a.obj.names + nL aC a.obj.values + nL aE a.obj.resp.fields
def ue (a : Rq) (k : Int) : Rq:=⟨a.method,a.path,aQ dr aE a.fields (k),a.body⟩
@[simp] theorem Yx (a : Rq) (k : Int) : (ue a k).method = a.method:=rfl
@[simp] theorem Yy (a : Rq) (k : Int) : (ue a k).path = a.path:=rfl
@[simp] theorem Yw (a : Rq) (k : Int) : (ue a k).body = a.body:=rfl
def CU (a : Rq) : Nat:=nL aE a.fields
def pX (a : cz) (k : Int) : cz:=⟨a.status,aQ dr aE a.fields (k),a.body⟩
@[simp] theorem YA (a : cz) (k : Int) : (pX a k).status = a.status:=rfl
@[simp] theorem Yz (a : cz) (k : Int) : (pX a k).body = a.body:=rfl
def Sn (a : cz) : Nat:=nL aE a.fields
def CT (a : Ob) (k : Int) : Ob:=⟨a.path,aQ bE aC a.names (k),aQ bE aC a.values (k + (nL aC a.names : Nat)),pX a.resp (k + (nL aC a.names : Nat) + (nL aC a.values : Nat)),a.t⟩
@[simp] theorem Yt (a : Ob) (k : Int) : (CT a k).path = a.path:=rfl
@[simp] theorem Yu (a : Ob) (k : Int) : (CT a k).resp = pX a.resp (k + (nL aC a.names : Nat) + (nL aC a.values : Nat)):=rfl
@[simp] theorem Yv (a : Ob) (k : Int) : (CT a k).t = a.t:=rfl
def nT (a : bW) (k : Int) : bW:=⟨aQ bE aC a.cells (k),aQ gS bR a.pending (k + (nL aC a.cells : Nat))⟩
def eZ (a : bW) : Nat:=nL aC a.cells + nL bR a.pending
theorem Sm (a : bW) : eZ a≤20 * bJ a:=by
 unfold eZ
 have:=BK wS a.cells
 have:=xb bR bk Lh a.pending
 unfold bJ
 omega
def kR (a : Sh) (k : Int) : Sh:=⟨nT a.aG (k),aQ gR bN a.ay (k + (eZ a.aG : Nat)),aQ gQ bQ a.aD (k + (eZ a.aG : Nat) + (nL bN a.ay : Nat)),a.next,a.seq⟩
@[simp] theorem YB (a : Sh) (k : Int) : (kR a k).aG = nT a.aG (k):=rfl
@[simp] theorem YC (a : Sh) (k : Int) : (kR a k).next = a.next:=rfl
@[simp] theorem YD (a : Sh) (k : Int) : (kR a k).seq = a.seq:=rfl
def fV (a : Sh) : Nat:=eZ a.aG + nL bN a.ay + nL bQ a.aD
theorem G7 (a : Sh) : fV a≤20 * bA a:=by
 unfold fV
 have:=Sm a.aG
 have:=xb bN aR Lf a.ay
 have:=xb bQ aH Ld a.aD
 unfold bA
 omega
def G6 (a : Ca) (k : Int) : Ca:=⟨kR a.gZ (k),aQ Qk zm a.qJ (k + (fV a.gZ : Nat)),a.now,aQ Qm Ea a.seen (k + (fV a.gZ : Nat) + (nL zm a.qJ : Nat)),aQ Ql Lg a.sent (k + (fV a.gZ : Nat) + (nL zm a.qJ : Nat) + (nL Ea a.seen : Nat))⟩
@[simp] theorem Ym (a : Ca) (k : Int) : (G6 a k).gZ = kR a.gZ (k):=rfl
@[simp] theorem Yl (a : Ca) (k : Int) : (G6 a k).now = a.now:=rfl
def pW (a : De) (k : Int) : De:=⟨a.kind,a.client,ue a.q (k),a.a,pX a.resp (k + (CU a.q : Nat)),a.ld,aQ iC aC a.keep (k + (CU a.q : Nat) + (Sn a.resp : Nat))⟩
@[simp] theorem Yq (a : De) (k : Int) : (pW a k).kind = a.kind:=rfl
@[simp] theorem Yp (a : De) (k : Int) : (pW a k).client = a.client:=rfl
@[simp] theorem Yr (a : De) (k : Int) : (pW a k).q = ue a.q (k):=rfl
@[simp] theorem Yn (a : De) (k : Int) : (pW a k).a = a.a:=rfl
@[simp] theorem Ys (a : De) (k : Int) : (pW a k).resp = pX a.resp (k + (CU a.q : Nat)):=rfl
@[simp] theorem Yo (a : De) (k : Int) : (pW a k).ld = a.ld:=rfl
end M
namespace M
open Go Go.RowKit
theorem mq.cell [B : Bs] {w : World} (h : mq w) {b k : Nat} {v : Value} (hc : B.W0.cell? ⟨b,k,none⟩ = some v) : w.cell? ⟨b,k,none⟩ = some v:=by
 have hb : b < B.W0.heap.size:=by
  rcases Nat.lt_or_ge b B.W0.heap.size with h | h
  ·exact h
  ·simp [World.cell?,Array.getElem?_eq_none h] at hc
 have e:=h b hb
 simpa [World.cell?,e] using hc
theorem Jl (w : World) : Below w.heap.size w w.drew:=(Below.refl _ _).drew
theorem CX {cs : List C} {s c : ByteArray} (h : cs.map C.er = [.str s,.str c]) : cs = [.str s,.str c]:=by
 obtain ⟨a,r,rfl,h1,h2⟩:=map_cons h
 obtain ⟨b,r',rfl,h3,h4⟩:=map_cons h2
 obtain rfl:=map_nil h4
 rw [EA h1,EA h3]
theorem UP [Bs] {P : Program} {f0 : FuncId} (hc : ∀ (s : ByteArray) (c : UInt8),c.toNat < 128→∀ w,s.size≤9223372036854775807 →
  Calls P f0 #[.string s,.string ⟨#[c]⟩] w fun e w'=>e = .returned (.string ⟨(Lib.trimB s.data.toList c).toArray⟩)∧(w' = w∨w' = w.drew)) : (fF f0 yp).Sound P :=
 BL fun xs r hg w zl zb cs hx hA hs=>by
  unfold yp at hg
  split at hg
  ·rename_i s c
   split at hg
   ·rename_i hh
    cases hg
    obtain rfl:=CX hx
    have e : c = ⟨#[32]⟩:=by
     have:=congrArg List.toArray hh.1
     simp at this
     cases c; simp at this; rw [this]
    subst e
    refine (hc s 32 (by decide) w hh.2).mono fun e w' ⟨he,hw⟩=>⟨.str ⟨(dw s.data.toList).toArray⟩,he,rfl,?_,Om ?_⟩
    ·rcases hw with rfl | rfl
     ·exact Below.refl _ _
     ·exact Jl _
    ·have:=He s.data.toList
     have h2:=hh.2
     simp only [ByteArray.size] at h2 ⊢
     simp at this ⊢
     omega
   ·cases hg
  ·cases hg
theorem R5 [B : Bs] {P : Program} {f0 : FuncId} {g1 : Nat} {t9 : TypeId} (hm : ∃ m,B.W0.cell? ⟨g1,0,none⟩ = some (.int .i64 m)) (hc : ∀ (s sep : ByteArray) (m : Int) (w : World),s.size < 4294967281→w.cell? ⟨g1,0,none⟩ = some (.int .i64 m)→1≤sep.size →
  Calls P f0 #[.string s,.string sep] w fun e w'=>e = .returned (.slice (some ⟨w.heap.size,0,none⟩) (Lib.countB s sep + 1) (Lib.countB s sep + 1))∧w' = w.alloc (.cells ((Lib.splitB sep 0 (Lib.countB s sep) s).map Value.string).toArray t9)) : (fF f0 yd).Sound P :=
 BL fun xs r hg w zl zb cs hx hA hs=>by
  unfold yd at hg
  split at hg
  ·rename_i s c
   split at hg
   ·rename_i hh
    cases hg
    obtain rfl:=CX hx
    obtain ⟨m,hm⟩:=hm
    have hlen:=Lib.splitB_all c hh.2 0 _ s rfl
    have Fj:=Lib.splitB_data c 0 (Lib.countB s c) s
    refine (hc s c m w hh.1 (hs.cell hm) hh.2).mono fun e w' ⟨he,hw⟩=>?_
    subst hw
    refine ⟨.row .own 1 (some (w.heap.size,0,none)) (Lib.splitB c 0 (Lib.countB s c) s).length (Lib.splitB c 0 (Lib.countB s c) s).length fun i _=>.str ((Lib.splitB c 0 (Lib.countB s c) s).getD i ByteArray.empty),?_,?_,?_,?_⟩
    ·rw [he,hlen]; rfl
    ·rw [RJ]
     unfold B1
     congr 1
     have : Lib.split s.data.toList c.data.toList = (Lib.splitB c 0 (Lib.countB s c) s).map (·.data.toList):=Fj.symm
     rw [this,List.map_map]
     refine List.map_congr_left fun x _=>?_
     simp
    ·exact (Below.refl _ _).alloc (Nat.le_refl _) _
    ·refine Ol (Nat.le_refl _) (t:=t9) ?_ fun x hx=>?_
     ·show (w.heap.push _)[w.heap.size]? = _
      simp
     ·have h1 : x.data.toList∈Lib.splitK c.data.toList 0 (Lib.countB s c) s.data.toList:=by rw [← Fj]; exact List.mem_map_of_mem hx
      have h2 : ∀ (k : Nat) (l : List UInt8),∀ y∈Lib.splitK c.data.toList 0 k l,y.length≤l.length:=by
       intro k
       induction k with
       | zero=>intro l y hy; simp [Lib.splitK] at hy; rw [hy]; exact Nat.le_refl _
       | succ k ih =>
        intro l y hy
        unfold Lib.splitK at hy
        split at hy
        ·rw [List.mem_singleton.1 hy]; exact Nat.le_refl _
        ·rcases List.mem_cons.1 hy with rfl | hy
         ·simp
          omega
         ·have:=ih _ _ hy; simp at this; omega
      have h3:=h2 _ _ _ h1
      have h4:=hh.1
      have e1 : s.size = s.data.toList.length:=Lib.size_eq _
      have e2 : x.size = x.data.toList.length:=Lib.size_eq _
      omega
   ·cases hg
  ·cases hg
theorem PE [B : Bs] {P : Program} {f0 : FuncId} (htab : Lib.TabIs P B.W0 "internal/strconv.uint64pow10" .u64 Lib.pow10Tab) (hc : ∀ (n : Int),-9223372036854775808≤n→n≤9223372036854775807→∀ w,Lib.TabIs P w "internal/strconv.uint64pow10" .u64 Lib.pow10Tab →
  Calls P f0 #[.int .i64 n] w fun e w'=>e = .returned (.string ⟨(Lib.itoa n).toArray⟩)∧∃ k os,w' = Sort.grow (w.drewN k) os) : (gW f0 rW).Sound P :=
 Ou fun xs r h w hw=>by
  unfold rW at h
  split at h
  ·rename_i n
   split at h
   ·rename_i Fh
    cases h
    exact hc n Fh.1 Fh.2 w (TabIs.same htab hw)
   ·cases h
  ·cases h
end M
namespace Go.Proofs
open Go.RowKit
theorem Ya {H : Type} {enc : TypeId×Value→H} {a : Assume} {C : Checked} {os : Os} {f : FuncId} {fn : Func} {s : ChangeSpec} {conds : List PathCond} {apart fresh handsOn again : Bool} {X : World→Array Value→Prop}
  (hX : ∀ (w w' : World) (args : Array Value),w.heap = w'.heap→X w args→X w' args)
  (own : ownKnob C.prog.godebug = none) (started : os.Started) (noInit : C.prog.inits.idxOf? f = none) (hfn : C.prog.funcs[f]? = some fn)
  (witness : ∃ (w : World) (tape : Tape) (i : Input),w.os = os∧(w.forCall tape i).Shaped C.prog∧i.vars = []∧Input.okWide C.prog (w.forCall tape i) .any w.heap.size f i ∧
   ((s.pre enc C.prog fn conds apart (w.forCall tape i).memory i.args∧X (w.forCall tape i).memory i.args)∧sizedMet enc C.prog fn (OpenSpec.ofChange s) apart (w.forCall tape i).memory i.args)∧a.holds C.prog (lone (Frame.enter C.prog f i.args .normal) [] (w.forCall tape i)))
  (contract : ∀ (W : World) (base : Nat) (args : Array Value) (ds gs : List (DataW H)) (before : List MemPlace),
   (∀ (j : Nat) t v,fn.params[j]? = some t→args[j]? = some v→Value.okWide C.prog W .any base t v) →
   DataW.Whole enc C.prog fn.params.toList s.vars apart W args.toList ds gs before →
   conds.all (PathCond.test C.prog ⟨fn.params.toList,ds,s.plain.varTypes C.prog,gs⟩) = true →
   (DataW.weightsEach C.prog (fn.params.toList ++ s.plain.varTypes C.prog) (ds ++ gs)).all (·≤reachBytes) = true→X W args →
   W.ShapedOpen C.prog →
   a.holds C.prog (lone (Frame.enter C.prog f args .normal) [] W) →
   Calls C.prog f args W fun e W'=>∃ v,e = .returned v∧s.post enc C.prog fn apart fresh handsOn again W args v W') :
  ReturnsInHanded a C os f .any (fun w args=>(s.pre enc C.prog fn conds apart w args∧X w args)∧sizedMet enc C.prog fn (OpenSpec.ofChange s) apart w args) (s.post enc C.prog fn apart fresh handsOn again):=by
 refine returnsInHanded_of_calls own started noInit witness ?_
 intro w tape i _ hsh _ hok hpre hholds
 obtain ⟨_,_,_,fn',OZ,_,_,_,_,hval⟩:=hok
 have e : fn' = fn:=Option.some.inj (OZ.symm.trans hfn)
 subst e
 obtain ⟨⟨⟨ds,gs,before,hw,hc⟩,hx⟩,hz⟩:=hpre
 have hw':=DataW.Whole.of_heap (w':=w.forCall tape i) (by rfl) hw
 refine (contract (w.forCall tape i) w.heap.size i.args ds gs before hval hw' hc (hz.weights hw) (hX _ _ _ (by rfl) hx) hsh hholds).mono fun e W' ⟨v,he,hp⟩=>?_
 subst he
 exact ChangeSpec.post_blind hp
end Go.Proofs
namespace M
open Go Go.RowKit
end M
namespace M
open Go Go.RowKit
theorem OL [B : Bs] {P : Program} {f0 : FuncId} (hc : ∀ (s p : ByteArray) (w : World),
  Calls P f0 #[.string s,.string p] w fun e w'=>e = .returned (.bool (Lib.hasPrefix s.data.toList p.data.toList))∧w' = w) : (fF f0 vj).Sound P :=
 BL fun xs r hg w zl zb cs hx hA hs=>by
  unfold vj at hg
  split at hg
  ·rename_i s c
   cases hg
   obtain rfl:=CX hx
   refine (hc s c w).mono fun e w' ⟨he,hw⟩=>?_
   subst hw
   exact ⟨.bool (Lib.hasPrefix s.data.toList c.data.toList),he,rfl,Below.refl _ _,Oj⟩
  ·cases hg
end M
namespace M
open Go
end M
namespace M
open Go
def crlf : ah:=[13,10]
def dm : ah:=[13,10,13,10]
def lines : List ah→ah
 | []=>[]
 | [l]=>l
 | l :: k :: ls=>l ++ (crlf ++ lines (k :: ls))
def F5 : ah:=[72,84,84,80,47,49,46,49]
def LK (f : aP) : ah:=f.name ++ ([58,32] ++ f.value)
def P4 (b : ah) : ah:=pF ++ ([58,32] ++ bG b.length)
def RN (r : cz) : ah:=F5 ++ 32 :: (bG r.status.toNat ++ [32,46])
def RO (r : cz) : List ah:=RN r :: (r.fields.map LK ++ [P4 r.body])
def RM (r : cz) : ah:=lines (RO r) ++ (dm ++ r.body)
def RF (r : cz) : ah:=if kL r = true then RM r else []
end M
namespace M
open Go
def colon : ah:=[58,32]
structure Vd (o : Ob) : Prop where
 resp : kL o.resp = true
 path : gT o.path = true
 t0 : 0≤o.t
 t1 : o.t≤1000000
 names : xd o.names = true
 YG : o.names = jl o.resp.fields
 len : o.values.length = o.names.length
 n4 : o.names.length≤4
 vals : ∀ v∈o.values,fW v = true
end M
namespace M
open Go
end M
namespace M
open Go
end M
namespace M
open Go
theorem LS {α : Type} {p : α→Bool} {l : List α} {i : Nat} {b : α} (h : cA p 0 l = some (i,b)) : l = l.take i ++ b :: l.drop (i + 1)∧p b = true∧(l.take i).filter (fun v=>!p v) = l.take i∧l.filter (fun v=>!p v) = l.take i ++ (l.drop (i + 1)).filter (fun v=>!p v):=by
 obtain ⟨_,h1,h2⟩:=mN h
 rw [Nat.sub_zero] at h1
 obtain ⟨hi,rfl⟩:=List.getElem?_eq_some_iff.1 h1
 have e : l = l.take i ++ l[i] :: l.drop (i + 1):=by rw [← List.drop_eq_getElem_cons hi,List.take_append_drop]
 have hb : ∀ x∈l.take i,p x = false:=by
  suffices H : ∀ (l : List α) (k i : Nat) (b : α),cA p k l = some (k + i,b)→∀ x∈l.take i,p x = false from H l 0 i _ (by simpa using h)
  intro l
  induction l with
  | nil=>intro k i b h; simp [cA] at h
  | cons a l ih =>
   intro k i b h x hx
   unfold cA at h
   by_cases hp : p a = true
   ·rw [if_pos hp] at h
    have : i = 0:=by have:=congrArg (fun o=>o.map Prod.fst) h; simp at this; exact this
    subst this
    simp at hx
   ·rw [if_neg hp] at h
    cases i with
    | zero=>simp at hx
    | succ i =>
     rcases List.mem_cons.1 (by simpa using hx) with rfl | hx
     ·simpa using hp
     ·exact ih (k + 1) i b (by rw [h]; congr 2; omega) x hx
 have hf : (l.take i).filter (fun v=>!p v) = l.take i:=List.filter_eq_self.2 fun x hx=>by simp [hb x hx]
 refine ⟨e,h2,hf,?_⟩
 conv=>lhs; rw [e]
 rw [List.filter_append,hf,List.filter_cons]
 simp [h2]
end M
