/- A machine of values for loaded Go functions, sound for the calculus of calls; part 3; no conditions. -/
import Derived.Test.YtkpkgfollnfhcaaGreatDoorMb
import Derived.Sort.Grow
import Derived.Deep.Draws
import Derived.Lib.LaidTab
import Derived.MakeChecks
import Derived.Laws.BitsLemmas
import Derived.ChangeArms
import Derived.ChangeReads
import Derived.ChangeOld
import Derived.ChangeShapes
import Derived.SizedLaws
import Derived.RowKit
import Derived.Below
import Derived.Lib.ItoaNum
import Derived.Lib.TrimByte
import Derived.Lib.AtoiAllCases
import Derived.Lib.SplitLaws
import Derived.Lib.Join
import Derived.Lib.IndexMore
import Derived.HandedShaped
import Derived.Lib.Strings
import Derived.Lib.Slices
import Derived.Lib.Walk
import Derived.Stop.LaidErr
set_option linter.unusedSectionVars false
set_option linter.unusedVariables false
set_option linter.unusedSimpArgs false
namespace M
open Go
section
variable {C C' : bz} {ok : FuncId→Bool}
theorem Td {C : bz} {d : Option Nat} {s s' : ag} {f : FuncId} {xs : List X} (h : kZ d s (C f xs) = some s') : ∃ o,C f xs = some o∧∀ C' : bz,C' f xs = some o→kZ d s (C' f xs) = some s':=by
 cases ho : C f xs with
 | none=>rw [ho] at h; cases h
 | some o=>rw [ho] at h; exact ⟨o,rfl,fun C' h'=>by rw [h']; exact h⟩
theorem Tc {C : bz} {d : Option Nat} {as : List (AV×PM)} {back : rA} {s' : ag} {f : FuncId} {xs : List X} (h : uD d as back (C f xs) = some s') : ∃ o,C f xs = some o∧∀ C' : bz,C' f xs = some o→uD d as back (C' f xs) = some s':=by
 cases ho : C f xs with
 | none=>rw [ho] at h; cases h
 | some o=>rw [ho] at h; exact ⟨o,rfl,fun C' h'=>by rw [h']; exact h⟩
theorem EE {f : FuncId} {d : Option Nat} {as : List (AV×PM)} {fv : Option AV} {s s' : ag} (h : lN C f d as fv s = some s') :
  ∃ xs o,C f xs = some o∧∀ C' : bz,C' f xs = some o→lN C' f d as fv s = some s':=by
 unfold lN at h ⊢
 by_cases hb : X.bare.fC (aV as s).1 = true
 ·simp only [if_pos hb] at h ⊢
  cases hm : cI as with
  | none =>
   simp only [hm] at h ⊢
   by_cases hc : oY (aV as s).2 fv f = true
   ·simp only [if_pos hc] at h ⊢
    obtain ⟨o,h1,h2⟩:=Td h
    exact ⟨_,o,h1,h2⟩
   ·simp only [if_neg hc] at h; cases h
  | some xn =>
   obtain ⟨x,n⟩:=xn
   simp only [hm] at h ⊢
   unfold vS at h ⊢
   split at h
   ·split at h
    ·rename_i y back h1 h2
     simp only [h1,if_pos h2]
     obtain ⟨o,h1,h2⟩:=Tc h
     exact ⟨_,o,h1,h2⟩
    ·cases h
   ·cases h
 ·simp only [if_neg hb] at h; cases h
theorem E8 {o : br} {s s' : ag} (h : bN C ok o s = some s') : (∀ C' : bz,bN C' ok o s = some s')∨∃ f xs r,C f xs = some r∧∀ C' : bz,C' f xs = some r→bN C' ok o s = some s':=by
 cases o with
 | call d f as =>
  obtain ⟨xs,o,h1,h2⟩:=EE (C:=C) h
  exact .inr ⟨f,xs,o,h1,h2⟩
 | jx d x as =>
  simp only [bN] at h ⊢
  split at h
  ·rename_i f caps hf
   split at h
   ·rename_i hok
    obtain ⟨xs,o,h1,h2⟩:=EE (C:=C) h
    refine .inr ⟨f,xs,o,h1,fun C' h'=>?_⟩
    simp only [if_pos hok]
    exact h2 C' h'
   ·cases h
  ·cases h
 | lM d f x as =>
  simp only [bN] at h ⊢
  split at h
  ·rename_i cs h1
   split at h
   ·rename_i h2
    simp only [if_pos h2]
    refine .inr ?_
    cases ho : C f (.agg (aW cs s).1 :: dN (aW cs s).2 .dead as (as.map fun _=>.dead)) with
    | none=>rw [ho] at h; cases h
    | some r=>rw [ho] at h; exact ⟨f,_,r,ho,fun C' h'=>by rw [h']; exact h⟩
   ·cases h
  ·cases h
 | _=>exact .inl fun _=>h
theorem E4 {g : G} {s s' : ag} (h : eG C ok g s = some s') : (∀ C' : bz,eG C' ok g s = some s')∨∃ f xs r,C f xs = some r∧∀ C' : bz,C' f xs = some r→eG C' ok g s = some s':=by
 obtain ⟨gg,o⟩:=g
 cases gg with
 | none=>exact E8 h
 | some tb =>
  obtain ⟨t,b⟩:=tb
  simp only [eG] at h ⊢
  split at h
  ·rename_i v hv
   split at h
   ·rename_i h1
    simp only [hv,if_pos h1]
    exact E8 h
   ·rename_i h1
    simp only [hv,if_neg h1]
    exact .inl fun _=>h
  ·exact .inl fun _=>h
  ·cases h
def bz.le (C C' : bz) : Prop:=∀ f xs o,C f xs = some o→C' f xs = some o
theorem E6 (hl : C.le C') {g : G} {s s' : ag} (h : eG C ok g s = some s') : eG C' ok g s = some s':=by
 rcases E4 h with h | ⟨f,xs,r,h1,h2⟩
 ·exact h _
 ·exact h2 _ (hl _ _ _ h1)
theorem AQ (hl : C.le C') : ∀ {l : List G} {s s' : ag},fR C ok l s = some s'→fR C' ok l s = some s'
 | [],_,_,h=>h
 | g :: l,s,s',h=>by
  simp only [fR] at h ⊢
  cases h1 : eG C ok g s with
  | none=>rw [h1] at h; cases h
  | some s1=>rw [h1] at h; rw [E6 hl h1]; exact AQ hl h
theorem pg (hl : C.le C') : ∀ {t : DT} {s s' : ag},eD C ok t s = some s'→eD C' ok t s = some s'
 | .nil _,_,_,h=>h
 | .step _ g l,s,s',h=>by
  simp only [eD] at h ⊢
  cases h1 : eG C ok g s with
  | none=>rw [h1] at h; cases h
  | some s1=>rw [h1] at h; rw [E6 hl h1]; exact pg hl h
 | .alt a b,s,s',h=>by
  simp only [eD] at h ⊢
  unfold same at h
  split at h
  ·rename_i x y hx hy
   rw [pg hl hx,pg hl hy]
   exact h
  ·cases h
 | .kp _ t,s,s',h=>pg (t:=t) hl h
theorem zw {k k' : ag→bH} {r r' : bH} {o : Ex×ag} (h : dx k r = some o) (hr : ∀ x,r = some x→r' = some x) (hk : ∀ s,k s = some o→k' s = some o) : dx k' r' = some o:=by
 unfold dx at h
 split at h
 ·rw [hr _ rfl]; exact hk _ h
 ·rw [hr _ rfl]; exact h
 ·rw [hr _ rfl]; exact h
 ·cases h
theorem pZ {f f' : ag→bH} (hf : ∀ s o,f s = some o→f' s = some o) : ∀ {n m : Nat} {s : ag} {o : Ex×ag},n≤m→iter f n s = some o→iter f' m s = some o
 | 0,_,_,_,_,h=>by cases h
 | n + 1,0,_,_,hn,_=>by omega
 | n + 1,m + 1,s,o,hn,h=>zw h (hf s) fun s' h'=>pZ hf (by omega) h'
end
noncomputable def aF (f : ag→bH) (s : ag) : bH:=by
 classical exact if h : ∃ o : Ex×ag,∃ n,iter f n s = some o then some (Classical.choose h) else none
theorem ua {f : ag→bH} {s : ag} {o : Ex×ag} {n : Nat} (h : iter f n s = some o) : aF f s = some o:=by
 have hh : ∃ o : Ex×ag,∃ n,iter f n s = some o:=⟨o,n,h⟩
 unfold aF
 rw [dif_pos hh]
 obtain ⟨m,hm⟩:=Classical.choose_spec hh
 have h1:=pZ (fun _ _ h=>h) (Nat.le_max_left m n) hm
 have h2:=pZ (fun _ _ h=>h) (Nat.le_max_right m n) h
 rw [h1] at h2
 exact h2
theorem Cz {f : ag→bH} {s : ag} {o : Ex×ag} (h : aF f s = some o) : ∃ n,iter f n s = some o:=by
 unfold aF at h
 split at h
 ·rename_i hh
  cases h
  exact Classical.choose_spec hh
 ·cases h
theorem CM {α : Type} {a b : Option α} (h1 : ∀ x,a = some x→b = some x) (h2 : ∀ x,b = some x→a = some x) : a = b:=by
 cases a with
 | none=>cases b with
  | none=>rfl
  | some y=>exact h2 y rfl
 | some x=>exact (h1 x rfl).symm
theorem gS (f : ag→bH) (s : ag) : aF f s = dx (aF f) (f s):=by
 refine CM (fun o h=>?_) fun o h=>?_
 ·obtain ⟨n,hn⟩:=Cz h
  cases n with
  | zero=>cases hn
  | succ n=>exact zw hn (fun _ h=>h) fun s' h'=>ua h'
 ·unfold dx at h
  split at h
  ·rename_i s' hs
   obtain ⟨n,hn⟩:=Cz h
   refine ua (n:=n + 1) ?_
   simp only [iter,hs,dx]; exact hn
  ·rename_i hs; refine ua (n:=1) ?_; simp only [iter,hs,dx]; exact h
  ·rename_i hs; refine ua (n:=1) ?_; simp only [iter,hs,dx]; exact h
  ·cases h
noncomputable def ai (C : bz) (ok : FuncId→Bool) : A→ag→bH
 | .skip,s=>some (.normal,s)
 | .ret,s=>some (.ret,s)
 | .exit id,s=>some (.exit id,s)
 | .ops l,s=>eT (fR C ok l s)
 | .draw t,s=>eT (eD C ok t s)
 | .seq a b,s=>dx (ai C ok b) (ai C ok a s)
 | .cond c a b,s=>match aq s c with
  | .bool t=>if t = true then ai C ok a s else ai C ok b s
  | _=>none
 | .block id b,s=>gH id (ai C ok b s)
 | .loop b,s=>aF (ai C ok b) s
 | .pk ks b,s=>gV ks (ai C ok b s)
theorem yB {a b : Option ag} (h : ∀ s,a = some s→b = some s) {o : Ex×ag} (ho : eT a = some o) : eT b = some o:=by
 unfold eT at ho
 split at ho
 ·rw [h _ rfl]; exact ho
 ·cases ho
theorem D8 {id : Nat} {a b : bH} (h : ∀ s,a = some s→b = some s) {o : Ex×ag} (ho : gH id a = some o) : gH id b = some o:=by
 cases a with
 | none=>cases ho
 | some x=>rw [h _ rfl]; exact ho
theorem G5 {ks : List Nat} {a b : bH} (h : ∀ s,a = some s→b = some s) {o : Ex×ag} (ho : gV ks a = some o) : gV ks b = some o:=by
 cases a with
 | none=>cases ho
 | some x=>rw [h _ rfl]; exact ho
theorem MB {C C' : bz} {ok : FuncId→Bool} (hl : C.le C') {N : Nat} : ∀ {t : A} {s : ag} {o : Ex×ag},eA C ok N t s = some o→ai C' ok t s = some o:=by
 intro t
 induction t with
 | skip=>intro s o h; exact h
 | ret=>intro s o h; exact h
 | exit id=>intro s o h; exact h
 | ops l=>intro s o h; exact yB (fun s' h'=>AQ hl h') h
 | draw l=>intro s o h; exact yB (fun s' h'=>pg hl h') h
 | seq a b eR fX=>intro s o h; exact zw h (fun x hx=>eR hx) fun s' h'=>fX h'
 | cond c a b eR fX =>
  intro s o h
  simp only [eA] at h
  simp only [ai]
  split at h
  ·rename_i t ht
   try rw [ht]
   cases t with
   | true=>exact eR h
   | false=>exact fX h
  ·cases h
 | block id b ih=>intro s o h; exact D8 (fun x hx=>ih hx) h
 | loop b ih=>intro s o h; exact ua (pZ (fun s o h=>ih h) (Nat.le_refl _) h)
 | pk ks b ih=>intro s o h; exact G5 (fun x hx=>ih hx) h
theorem MC {C C' : bz} {ok : FuncId→Bool} (hl : C.le C') {N N' : Nat} (hN : N≤N') : ∀ {t : A} {s : ag} {o : Ex×ag},eA C ok N t s = some o→eA C' ok N' t s = some o:=by
 intro t
 induction t with
 | skip=>intro s o h; exact h
 | ret=>intro s o h; exact h
 | exit id=>intro s o h; exact h
 | ops l=>intro s o h; exact yB (fun s' h'=>AQ hl h') h
 | draw l=>intro s o h; exact yB (fun s' h'=>pg hl h') h
 | seq a b eR fX=>intro s o h; exact zw h (fun x hx=>eR hx) fun s' h'=>fX h'
 | cond c a b eR fX =>
  intro s o h
  simp only [eA] at h ⊢
  split at h
  ·rename_i t ht
   cases t with
   | true=>exact eR h
   | false=>exact fX h
  ·cases h
 | block id b ih=>intro s o h; exact D8 (fun x hx=>ih hx) h
 | loop b ih=>intro s o h; exact pZ (fun s o h=>ih h) hN h
 | pk ks b ih=>intro s o h; exact G5 (fun x hx=>ih hx) h
theorem wm {L : bz} {T : fA} : ∀ {n m : Nat},n≤m→(exec L T n).le (exec L T m)
 | 0,_,_,_,_,_,h=>by cases h
 | n + 1,0,hn,_,_,_,_=>by omega
 | n + 1,m + 1,hn,f,xs,o,h=>by
  have hnm : n≤m:=by omega
  simp only [exec] at h ⊢
  split at h
  ·rename_i F hF
   unfold eF at h ⊢
   split at h
   ·rename_i hl
    rw [if_pos hl]
    cases hr : eA (exec L T n) (aj T) n F.body (iM xs) with
    | none=>rw [hr] at h; cases h
    | some r=>rw [hr] at h; rw [MC (wm hnm) hnm hr]; exact h
   ·cases h
  ·exact h
noncomputable def ev (L : bz) (T : fA) : bz:=fun f xs=>by
 classical exact if h : ∃ o : Out,∃ n,exec L T n f xs = some o then some (Classical.choose h) else none
theorem AW {L : bz} {T : fA} {f : FuncId} {xs : List X} {o : Out} {n : Nat} (h : exec L T n f xs = some o) : ev L T f xs = some o:=by
 have hh : ∃ o : Out,∃ n,exec L T n f xs = some o:=⟨o,n,h⟩
 unfold ev
 rw [dif_pos hh]
 obtain ⟨m,hm⟩:=Classical.choose_spec hh
 have h1:=wm (Nat.le_max_left m n) f xs _ hm
 have h2:=wm (Nat.le_max_right m n) f xs _ h
 rw [h1] at h2
 exact h2
theorem wj {L : bz} {T : fA} {f : FuncId} {xs : List X} {o : Out} (h : ev L T f xs = some o) : ∃ n,exec L T n f xs = some o:=by
 unfold ev at h
 split at h
 ·rename_i hh
  cases h
  exact Classical.choose_spec hh
 ·cases h
theorem MI (L : bz) (T : fA) (n : Nat) : (exec L T n).le (ev L T):=fun _ _ _ h=>AW h
theorem YN [Bs] {P : Program} {L : bz} {T : fA} (hL : L.Sound P) (hT : T.Ok P) : (ev L T).Sound P:=fun f xs o h=>by
 obtain ⟨n,hn⟩:=wj h
 exact Fi hL hT n f xs o hn
section
variable {L : bz} {T : fA}
theorem E5 {g : G} {s s' : ag} (h : eG (ev L T) (aj T) g s = some s') : ∃ n,∀ m,n≤m→eG (exec L T m) (aj T) g s = some s':=by
 rcases E4 h with h | ⟨f,xs,r,h1,h2⟩
 ·exact ⟨0,fun m _=>h _⟩
 ·obtain ⟨n,hn⟩:=wj h1
  exact ⟨n,fun m hm=>h2 _ (wm hm f xs r hn)⟩
theorem Fa : ∀ {l : List G} {s s' : ag},fR (ev L T) (aj T) l s = some s'→∃ n,∀ m,n≤m→fR (exec L T m) (aj T) l s = some s'
 | [],s,s',h=>⟨0,fun m _=>h⟩
 | g :: l,s,s',h=>by
  simp only [fR] at h ⊢
  cases h1 : eG (ev L T) (aj T) g s with
  | none=>rw [h1] at h; cases h
  | some s1 =>
   rw [h1] at h
   obtain ⟨n1,ff⟩:=E5 h1
   obtain ⟨n2,hn2⟩:=Fa (l:=l) h
   exact ⟨max n1 n2,fun m hm=>by rw [ff m (by omega)]; exact hn2 m (by omega)⟩
theorem rS : ∀ {l : DT} {s s' : ag},eD (ev L T) (aj T) l s = some s'→∃ n,∀ m,n≤m→eD (exec L T m) (aj T) l s = some s'
 | .nil _,s,s',h=>⟨0,fun m _=>h⟩
 | .step _ g l,s,s',h=>by
  simp only [eD] at h ⊢
  cases h1 : eG (ev L T) (aj T) g s with
  | none=>rw [h1] at h; cases h
  | some s1 =>
   rw [h1] at h
   obtain ⟨n1,ff⟩:=E5 h1
   obtain ⟨n2,hn2⟩:=rS (l:=l) h
   exact ⟨max n1 n2,fun m hm=>by rw [ff m (by omega)]; exact hn2 m (by omega)⟩
 | .alt a b,s,s',h=>by
  simp only [eD] at h ⊢
  unfold same at h
  split at h
  ·rename_i x y hx hy
   obtain ⟨n1,ff⟩:=rS hx
   obtain ⟨n2,hn2⟩:=rS hy
   exact ⟨max n1 n2,fun m hm=>by rw [ff m (by omega),hn2 m (by omega)]; exact h⟩
  ·cases h
 | .kp _ t,s,s',h=>rS (l:=t) h
theorem GO {a : Option ag} {b : Nat→Option ag} (h : ∀ s,a = some s→∃ n,∀ m,n≤m→b m = some s) {o : Ex×ag} (ho : eT a = some o) : ∃ n,∀ m,n≤m→eT (b m) = some o:=by
 cases a with
 | none=>cases ho
 | some s =>
  obtain ⟨n,hn⟩:=h s rfl
  exact ⟨n,fun m hm=>by rw [hn m hm]; exact ho⟩
theorem MG : ∀ {t : A} {s : ag} {o : Ex×ag},ai (ev L T) (aj T) t s = some o→∃ n,∀ m,n≤m→eA (exec L T m) (aj T) m t s = some o:=by
 intro t
 induction t with
 | skip=>intro s o h; exact ⟨0,fun m _=>h⟩
 | ret=>intro s o h; exact ⟨0,fun m _=>h⟩
 | exit id=>intro s o h; exact ⟨0,fun m _=>h⟩
 | ops l=>intro s o h; exact GO (fun s h=>Fa h) h
 | draw l=>intro s o h; exact GO (fun s h=>rS h) h
 | seq a b eR fX =>
  intro s o h
  simp only [ai] at h
  simp only [eA]
  cases hr : ai (ev L T) (aj T) a s with
  | none=>rw [hr] at h; cases h
  | some r =>
   rw [hr] at h
   obtain ⟨n1,ff⟩:=eR hr
   obtain ⟨e,s1⟩:=r
   cases e with
   | normal =>
    obtain ⟨n2,hn2⟩:=fX (s:=s1) h
    exact ⟨max n1 n2,fun m hm=>by rw [ff m (by omega)]; exact hn2 m (by omega)⟩
   | exit i=>exact ⟨n1,fun m hm=>by rw [ff m hm]; exact h⟩
   | ret=>exact ⟨n1,fun m hm=>by rw [ff m hm]; exact h⟩
 | cond c a b eR fX =>
  intro s o h
  simp only [ai] at h
  simp only [eA]
  split at h
  ·rename_i t ht
   try rw [ht]
   cases t with
   | true=>exact eR h
   | false=>exact fX h
  ·cases h
 | block id b ih =>
  intro s o h
  simp only [ai] at h
  simp only [eA]
  cases hr : ai (ev L T) (aj T) b s with
  | none=>rw [hr] at h; cases h
  | some r =>
   rw [hr] at h
   obtain ⟨n1,ff⟩:=ih hr
   exact ⟨n1,fun m hm=>by rw [ff m hm]; exact h⟩
 | pk ks b ih =>
  intro s o h
  simp only [ai] at h
  simp only [eA]
  cases hr : ai (ev L T) (aj T) b s with
  | none=>rw [hr] at h; cases h
  | some r =>
   rw [hr] at h
   obtain ⟨n1,ff⟩:=ih hr
   exact ⟨n1,fun m hm=>by rw [ff m hm]; exact h⟩
 | loop b ih =>
  intro s o h
  simp only [ai] at h
  obtain ⟨n,hn⟩:=Cz h
  have go : ∀ (n : Nat) (s : ag),iter (ai (ev L T) (aj T) b) n s = some o→∃ k,∀ m,k≤m→iter (eA (exec L T m) (aj T) m b) n s = some o:=by
   intro n
   induction n with
   | zero=>intro s h; cases h
   | succ n ihn =>
    intro s h
    simp only [iter] at h ⊢
    cases hr : ai (ev L T) (aj T) b s with
    | none=>rw [hr] at h; cases h
    | some r =>
     rw [hr] at h
     obtain ⟨n1,ff⟩:=ih hr
     obtain ⟨e,s1⟩:=r
     cases e with
     | normal =>
      obtain ⟨n2,hn2⟩:=ihn s1 h
      exact ⟨max n1 n2,fun m hm=>by rw [ff m (by omega)]; exact hn2 m (by omega)⟩
     | exit i=>exact ⟨n1,fun m hm=>by rw [ff m hm]; exact h⟩
     | ret=>exact ⟨n1,fun m hm=>by rw [ff m hm]; exact h⟩
  obtain ⟨k,hk⟩:=go n s hn
  refine ⟨max k n,fun m hm=>?_⟩
  simp only [eA]
  exact pZ (fun _ _ h=>h) (by omega) (hk m (by omega))
noncomputable def wh (L : bz) (T : fA) (F : Fn) (xs : List X) : Option Out :=
 if xs.length = F.n then fin F (ai (ev L T) (aj T) F.body (iM xs)) else none
theorem MH {f : FuncId} {F : Fn} (hF : T f = some F) (xs : List X) : ev L T f xs = wh L T F xs:=by
 refine CM (fun o h=>?_) fun o h=>?_
 ·obtain ⟨n,hn⟩:=wj h
  cases n with
  | zero=>cases hn
  | succ n =>
   simp only [exec,hF] at hn
   unfold eF at hn
   unfold wh
   split at hn
   ·rename_i hl
    rw [if_pos hl]
    cases hr : eA (exec L T n) (aj T) n F.body (iM xs) with
    | none=>rw [hr] at hn; cases hn
    | some r=>rw [hr] at hn; rw [MB (MI L T n) hr]; exact hn
   ·cases hn
 ·unfold wh at h
  split at h
  ·rename_i hl
   cases hr : ai (ev L T) (aj T) F.body (iM xs) with
   | none=>rw [hr] at h; cases h
   | some r =>
    rw [hr] at h
    obtain ⟨n,hn⟩:=MG hr
    refine AW (n:=n + 1) ?_
    simp only [exec,hF,eF,if_pos hl,hn n (Nat.le_refl n)]
    exact h
  ·cases h
theorem pz {f : FuncId} (hF : T f = none) (xs : List X) : ev L T f xs = L f xs:=by
 refine CM (fun o h=>?_) fun o h=>?_
 ·obtain ⟨n,hn⟩:=wj h
  cases n with
  | zero=>cases hn
  | succ n=>simpa only [exec,hF] using hn
 ·refine AW (n:=1) ?_
  simpa only [exec,hF] using h
end
end M
namespace M
open Go
section
variable {C : bz} {ok : FuncId→Bool} {T : fA}
@[simp] theorem YM (s : ag) : ai C ok .skip s = some (.normal,s):=rfl
@[simp] theorem YK (s : ag) : ai C ok .ret s = some (.ret,s):=rfl
@[simp] theorem YG (i : Nat) (s : ag) : ai C ok (.exit i) s = some (.exit i,s):=rfl
@[simp] theorem YI (l : List G) (s : ag) : ai C ok (.ops l) s = eT (fR C ok l s):=rfl
@[simp] theorem YF (t : DT) (s : ag) : ai C ok (.draw t) s = eT (eD C ok t s):=rfl
@[simp] theorem YL (a b : A) (s : ag) : ai C ok (.seq a b) s = dx (ai C ok b) (ai C ok a s):=rfl
@[simp] theorem YD (i : Nat) (b : A) (s : ag) : ai C ok (.block i b) s = gH i (ai C ok b s):=rfl
@[simp] theorem YH (b : A) (s : ag) : ai C ok (.loop b) s = aF (ai C ok b) s:=rfl
@[simp] theorem YJ (ks : List Nat) (b : A) (s : ag) : ai C ok (.pk ks b) s = gV ks (ai C ok b s):=rfl
noncomputable def EV (C : bz) (ok : FuncId→Bool) (a b : A) (s : ag) : X→bH
 | .bool t=>if t = true then ai C ok a s else ai C ok b s
 | _=>none
@[simp] theorem YE (c : AV) (a b : A) (s : ag) : ai C ok (.cond c a b) s = EV C ok a b s (aq s c):=by
 simp only [ai]; cases aq s c <;> rfl
@[simp] theorem Ya (a b : A) (s : ag) (t : Bool) : EV C ok a b s (.bool t) = if t = true then ai C ok a s else ai C ok b s:=rfl
@[simp] theorem YB (s : ag) : fR C ok [] s = some s:=rfl
@[simp] theorem YA (g : G) (l : List G) (s : ag) : fR C ok (g :: l) s = (eG C ok g s).bind (fR C ok l):=rfl
@[simp] theorem Yw (ks : List Nat) (s : ag) : eD C ok (.nil ks) s = some (keep ks s):=rfl
@[simp] theorem Yx (i : Nat) (g : G) (t : DT) (s : ag) : eD C ok (.step i g t) s = (eG C ok g s).bind (eD C ok t):=rfl
@[simp] theorem Yu (a b : DT) (s : ag) : eD C ok (.alt a b) s = same (eD C ok a s) (eD C ok b s):=rfl
@[simp] theorem Yv (ks : List Nat) (t : DT) (s : ag) : eD C ok (.kp ks t) s = eD C ok t (keep ks s):=rfl
@[simp] theorem ZY (s : ag) : same (some s) (some s) = some s:=by
 have : lS s s = true:=by
  induction s with
  | nil=>rfl
  | cons a l ih=>obtain ⟨k,x⟩:=a; simp [lS,X.Fh,ih]
 simp [same,this]
@[simp] theorem Xn (c : Prop) [Decidable c] (a b : Option ag) (f : ag→Option ag) : (if c then a else b).bind f = if c then a.bind f else b.bind f:=by split <;> rfl
def wC (C : bz) (ok : FuncId→Bool) (o : br) (t : Nat) (b : Bool) (s : ag) : X→Option ag
 | .bool v=>if v = b then bN C ok o ((t,.bool b) :: s) else some (dD o.dst (.ax []) ((t,.bool (!b)) :: s))
 | .ax []=>some (dD o.dst (.ax []) s)
 | _=>none
@[simp] theorem Yy (o : br) (s : ag) : eG C ok ⟨none,o⟩ s = bN C ok o s:=rfl
@[simp] theorem Yz (t : Nat) (b : Bool) (o : br) (s : ag) : eG C ok ⟨some (t,b),o⟩ s = wC C ok o t b s (get s t):=by
 simp only [eG]
 split <;> simp_all [wC]
@[simp] theorem YZ (o : br) (t : Nat) (b v : Bool) (s : ag) : wC C ok o t b s (.bool v) = if v = b then bN C ok o ((t,.bool b) :: s) else some (dD o.dst (.ax []) ((t,.bool (!b)) :: s)):=rfl
@[simp] theorem Y0 (o : br) (t : Nat) (b : Bool) (s : ag) : wC C ok o t b s (.ax []) = some (dD o.dst (.ax []) s):=rfl
@[simp] theorem ZI (s : ag) : eT (some s) = some (.normal,s):=rfl
@[simp] theorem ZH : eT none = none:=rfl
@[simp] theorem ZG (c : Prop) [Decidable c] (a b : Option ag) : eT (if c then a else b) = if c then eT a else eT b:=by split <;> rfl
@[simp] theorem Z3 (k : ag→bH) (s : ag) : dx k (some (.normal,s)) = k s:=rfl
@[simp] theorem Z0 (k : ag→bH) (i : Nat) (s : ag) : dx k (some (.exit i,s)) = some (.exit i,s):=rfl
@[simp] theorem Z4 (k : ag→bH) (s : ag) : dx k (some (.ret,s)) = some (.ret,s):=rfl
@[simp] theorem Z2 (k : ag→bH) : dx k none = none:=rfl
@[simp] theorem Z1 (k : ag→bH) (c : Prop) [Decidable c] (a b : bH) : dx k (if c then a else b) = if c then dx k a else dx k b:=by split <;> rfl
@[simp] theorem Xr (i : Nat) (s : ag) : gH i (some (.normal,s)) = some (.normal,s):=rfl
@[simp] theorem Xo (i j : Nat) (s : ag) : gH i (some (.exit j,s)) = if j = i then some (.normal,s) else some (.exit j,s):=rfl
@[simp] theorem Xs (i : Nat) (s : ag) : gH i (some (.ret,s)) = some (.ret,s):=rfl
@[simp] theorem Xq (i : Nat) : gH i none = none:=rfl
@[simp] theorem Xp (i : Nat) (c : Prop) [Decidable c] (a b : bH) : gH i (if c then a else b) = if c then gH i a else gH i b:=by split <;> rfl
@[simp] theorem ZR (ks : List Nat) (s : ag) : gV ks (some (.normal,s)) = some (.normal,keep ks s):=rfl
@[simp] theorem ZO (ks : List Nat) (i : Nat) (s : ag) : gV ks (some (.exit i,s)) = some (.exit i,s):=rfl
@[simp] theorem ZS (ks : List Nat) (s : ag) : gV ks (some (.ret,s)) = some (.ret,s):=rfl
@[simp] theorem ZQ (ks : List Nat) : gV ks none = none:=rfl
@[simp] theorem ZP (ks : List Nat) (c : Prop) [Decidable c] (a b : bH) : gV ks (if c then a else b) = if c then gV ks a else gV ks b:=by split <;> rfl
def nA (rs : List RV) (n : Nat) : bH→Option Out
 | some (.exit _,_)=>none
 | some (_,s)=>if X.clean.bC (cK rs s).1 = true∧(cK rs s).1.any X.iC = false then some (ot (cK rs s).1,kY 0 n (cK rs s).2) else none
 | none=>none
def AZ (rs : List RV) (n : Nat) (s : ag) : Option Out:=if X.clean.bC (cK rs s).1 = true∧(cK rs s).1.any X.iC = false then some (ot (cK rs s).1,kY 0 n (cK rs s).2) else none
theorem av {L : bz} {T : fA} {f : FuncId} {b : A} {rs : List RV} {n : Nat} (h : T f = some ⟨b,rs,n⟩) {xs : List X} (hl : xs.length = n) : ev L T f xs = nA rs n (ai (ev L T) (aj T) b (iM xs)):=by
 rw [MH h]
 unfold wh
 rw [if_pos hl]
 rfl
@[simp] theorem YY (rs : List RV) (n : Nat) (s : ag) : nA rs n (some (.ret,s)) = AZ rs n s:=rfl
@[simp] theorem YX (rs : List RV) (n : Nat) (s : ag) : nA rs n (some (.normal,s)) = AZ rs n s:=rfl
@[simp] theorem YW (rs : List RV) (n : Nat) : nA rs n none = none:=rfl
@[simp] theorem YV (rs : List RV) (n : Nat) (c : Prop) [Decidable c] (a b : bH) : nA rs n (if c then a else b) = if c then nA rs n a else nA rs n b:=by split <;> rfl
@[simp] theorem ZV (d : Option Nat) (s : ag) (r : X) (ps : List X) : kZ d s (some (r,ps)) = some (dD d r s):=rfl
@[simp] theorem ZU (d : Option Nat) (s : ag) : kZ d s none = none:=rfl
@[simp] theorem ZT (d : Option Nat) (s : ag) (c : Prop) [Decidable c] (a b : Option Out) : kZ d s (if c then a else b) = if c then kZ d s a else kZ d s b:=by split <;> rfl
end
attribute [simp] AZ bN iM va vb cK kY post ot X.iC X.clean X.clean.bC X.clean.aP keep zA vP lN oY
end M
namespace M
open Go
def vX (z bytes : Nat) : A:=(.seq (.pk [0] (.ops [⟨none,.bt 2 .bl (.k (.row .own z []))⟩])) (.seq (.seq (.pk [0,4] (.ops [⟨none,.mv 3 (.t 0)⟩,⟨none,.mL 4 false (.t 3)⟩])) (.pk [0] (.cond (.t 4) (.seq (.pk [2,7] (.ops [⟨none,.bt 2 .bl (.k (.row .own z []))⟩])) .ret) .skip))) (.seq (.pk [2,7] (.ops [⟨none,.lit 5 .mv z []⟩,⟨none,.mv 6 (.t 0)⟩,⟨none,.app 7 .al z bytes (.t 5) (.t 6)⟩,⟨none,.bt 2 .bl (.t 7)⟩])) .ret)))
theorem ER : ∀ {rows : List (List X)},eY rows = true→X.clean.aP rows = true
 | [],_=>rfl
 | e :: l,h=>by
  simp only [eY,Bool.and_eq_true,List.all_eq_true] at h
  have h1 : X.clean.bC e = true:=by
   have h2:=h.1
   clear h
   induction e with
   | nil=>rfl
   | cons x e ih =>
    have hx:=h2 x (List.mem_cons_self ..)
    have he:=ih fun y hy=>h2 y (List.mem_cons_of_mem _ hy)
    cases x <;> simp_all [scalar,X.clean.bC,X.clean]
  simp only [X.clean.aP,h1,ER h.2,Bool.and_self]
theorem L7 [Bs] {P : Program} {f : FuncId} {z bytes : Nat} (hT : Told P f (vX z bytes) [.t 2] 1) {rows : List (List X)} (h1 : rows.length * bytes≤140737488355328) (h2 : eY rows = true) (h4 : k5 rows = true∨rows = []) :
  AC P f [.row .af z rows] fun r ps=>r = .row .own z rows∧ps = [.dead]:=by
 refine hT.ac rfl ?_
 have h3:=Dk h2
 have h5:=ER h2
 simp [vX,cW,gi,ki,aH,base,Ends,h1,h3,h5]
 intro h6
 rcases h4 with h4 | h4
 ·rw [h4] at h6; cases h6
 ·subst h4; simp
def kq (f0 z bytes : Nat) : bz:=fun f xs=>if f = f0 then (match xs with
 | [.row .af z' rows]=>if z' = z∧rows.length * bytes≤140737488355328∧eY rows = true∧(k5 rows = true∨rows = []) then some (.row .own z rows,[.dead]) else none
 | _=>none) else none
theorem L6 [Bs] {P : Program} {f0 z bytes : Nat} (hT : Told P f0 (vX z bytes) [.t 2] 1) : (kq f0 z bytes).Sound P:=fun f xs o h=>by
 unfold kq at h
 split at h
 ·rename_i hf
  subst hf
  split at h
  ·split at h
   ·rename_i hc
    obtain ⟨rfl,c1,c2,c3⟩:=hc
    cases h
    exact L7 hT c1 c2 c3
   ·cases h
  ·cases h
 ·cases h
def gU (L L' : bz) : bz:=fun f xs=>match L f xs with
 | some o=>some o
 | none=>L' f xs
theorem uy [Bs] {P : Program} {L L' : bz} (h : L.Sound P) (h' : L'.Sound P) : (gU L L').Sound P:=fun f xs o e=>by
 unfold gU at e
 split at e
 ·rename_i o' e'
  cases e
  exact h f xs _ e'
 ·exact h' f xs _ e
end M
namespace M
open Go
def sv : X→Value
 | .int k n=>.int k n
 | .bool b=>.bool b
 | .str s=>.string s
 | _=>undef
theorem TM {c : C} (h : scalar c.er = true) : c.val = sv c.er:=by
 cases c <;> first | rfl | (simp [C.er,scalar] at h)
def vf : X→Bool
 | .str s=>decide (s.size≤9223372036854775807)
 | x=>scalar x
def jj (f0 : FuncId) (g : List X→Option X) : bz:=fun f xs=>if f = f0 then (match g xs with
 | some r=>if xs.all scalar = true∧vf r = true then some (r,xs.map fun _=>.dead) else none
 | none=>none) else none
end M
namespace M
open Go Go.Sort
def jt [B : Bs] (w : World) : Prop:=∀ b,b < B.W0.heap.size→w.heap[b]? = B.W0.heap[b]?
theorem JR [Bs] {P : Program} {f : FuncId} {xs : List X} {r : X} (hx : ∀ x∈xs,scalar x = true) (hr : vf r = true)
  (h : ∀ w,jt w→Calls P f (xs.map sv).toArray w fun e w'=>e = .returned (sv r)∧∃ k os,w' = grow (w.drewN k) os) : AC P f xs fun r' ps=>r' = r∧ps = xs.map fun _=>.dead:=by
 intro w zl zb cs e hA jF
 have hv : cs.map C.val = xs.map sv:=by
  rw [← e,List.map_map]
  exact List.map_congr_left fun c hc=>TM (hx _ (e ▸ List.mem_map_of_mem hc))
 rw [hv]
 refine (h w fun b hb=>(jF b hb).1).mono fun e' w' ⟨he,k,os,hw⟩=>?_
 subst hw
 have hsz : w.heap.size≤(grow (w.drewN k) os).heap.size:=by simp [grow,World.drewN]
 have hs : ∃ c : C,c.er = r∧c.val = sv r∧c.ok (grow (w.drewN k) os) (Zf zl fun _ _=>False)∧c.bare∧∀ b k,¬ c.fp b k:=by
  cases r with
  | int k n=>exact ⟨.int k n,rfl,rfl,trivial,trivial,fun _ _ h=>h⟩
  | bool b=>exact ⟨.bool b,rfl,rfl,trivial,trivial,fun _ _ h=>h⟩
  | str s=>exact ⟨.str s,rfl,rfl,by simp [vf] at hr; exact hr,trivial,fun _ _ h=>h⟩
  | _=>simp [vf,scalar] at hr
 obtain ⟨c,c1,c2,c3,c4,c5⟩:=hs
 have Bm : Ext (fun b k=>∃ x∈cs,x.fp b k) w (grow (w.drewN k) os):=⟨rfl,rfl,rfl,hsz,fun b hb=>.inl (by
  show (w.heap ++ os)[b]? = w.heap[b]?
  exact Array.getElem?_append_left hb)⟩
 refine ⟨c,cs.map fun x=>.dead x.val,zl,⟨by rw [he,c2],by rw [List.map_map]; rfl,Bm,⟨fun x hx'=>?_,fun x hx'=>?_,fun x hx' b k hf=>?_,fun b k hz=>Nat.lt_of_lt_of_le (hA.bG b k (hz.imp id fun h=>h.elim)) hsz,?_⟩,fun x hx' b k hf=>?_,fun _ _ h=>h,fun _ _ h=>.inl h⟩,c1,?_⟩
 ·rcases List.mem_cons.1 hx' with rfl | hx'
  ·exact c3
  ·obtain ⟨y,_,rfl⟩:=List.mem_map.1 hx'; trivial
 ·rcases List.mem_cons.1 hx' with rfl | hx'
  ·exact c4
  ·obtain ⟨y,_,rfl⟩:=List.mem_map.1 hx'; trivial
 ·rcases List.mem_cons.1 hx' with rfl | hx'
  ·exact (c5 b k hf).elim
  ·obtain ⟨y,_,rfl⟩:=List.mem_map.1 hx'; exact hf.elim
 ·refine List.pairwise_cons.2 ⟨fun x _ b k hf=>(c5 b k hf).elim,?_⟩
  refine List.pairwise_iff_getElem.2 fun i j hi hj _ b k hf=>?_
  obtain ⟨y,_,hy⟩:=List.mem_map.1 (List.getElem_mem hi)
  rw [← hy] at hf
  exact hf.elim
 ·rcases List.mem_cons.1 hx' with rfl | hx'
  ·exact (c5 b k hf).elim
  ·obtain ⟨y,_,rfl⟩:=List.mem_map.1 hx'; exact hf.elim
 ·rw [← e]
  simp [List.map_map,Function.comp_def,C.er]
theorem P1 [Bs] {P : Program} {f0 : FuncId} {g : List X→Option X} (h : ∀ xs r,g xs = some r→∀ w,jt w→Calls P f0 (xs.map sv).toArray w fun e w'=>e = .returned (sv r)∧∃ k os,w' = grow (w.drewN k) os) : (jj f0 g).Sound P:=fun f xs o e=>by
 unfold jj at e
 split at e
 ·rename_i hf
  subst hf
  split at e
  ·rename_i r hr
   split at e
   ·rename_i hc
    cases e
    exact JR (List.all_eq_true.1 hc.1) hc.2 (h xs r hr)
   ·cases e
  ·cases e
 ·cases e
theorem TabIs.same [B : Bs] {P : Program} {w : World} {n : String} {k : IntKind} {zs : List Int} (h : Lib.TabIs P B.W0 n k zs) (hw : jt w) : Lib.TabIs P w n k zs:=by
 unfold Lib.TabIs World.var? at h ⊢
 cases hg : P.globalNamed n with
 | none=>rw [hg] at h; cases h
 | some g =>
  rw [hg] at h
  simp only [Option.bind_some] at h ⊢
  have hlt : g < B.W0.heap.size:=by
   rcases Nat.lt_or_ge g B.W0.heap.size with h' | h'
   ·exact h'
   ·rw [Array.getElem?_eq_none h'] at h; cases h
  rw [hw g hlt]
  exact h
theorem TO {P : Program} {W : World} {name : String} {k : IntKind} {zs : List Int} {g : Nat} {t e : TypeId} {n : Nat}
  (hg : P.globalNamed name = some g) (hty : (P.globals[g]?).map (·.type) = some t) (ht : P.underlying t = some (.array n e)) (he : P.underlying e = some (.int k)) (hce : P.cellsOf e = 1) (hct : P.cellsOf t = n) :
  ∀ {l : List (String×DataW Unit)} {ps : List MemPlace},DataW.LaidVars P W l ps→(name,Lib.tabData k zs)∈l→Lib.TabIs P W name k zs
 | [],_,_,h=>by cases h
 | (nm,d) :: l,ps,h,hm=>by
  obtain ⟨g',t',cs,fuel,p,q,hg',ht',hvar,hd,hr,_⟩:=h
  rcases List.mem_cons.1 hm with hm | hm
  ·obtain ⟨rfl,rfl⟩:=Prod.mk.inj hm
   obtain rfl:=Option.some.inj (hg.symm.trans hg')
   obtain rfl:=Option.some.inj (hty.symm.trans ht')
   unfold Lib.TabIs
   rw [hvar,← Lib.cells_of_tab ht he hce hct hd]
  ·exact TO hg hty ht he hce hct hr hm
end M
namespace M
open Go
def lv : Ex×ag→bH
 | (.normal,_)=>none
 | (.ret,s)=>some (.ret,s)
 | (.exit i,s)=>some (.exit i,s)
def iG {β γ : Type} (go : β→γ→γ ⊕ (Ex×ag)) : List β→γ→γ ⊕ (Ex×ag)
 | [],g=>.inl g
 | b :: l,g=>match go b g with
  | .inl g'=>iG go l g'
  | .inr o=>.inr o
theorem yq {xt : Nat} {β γ : Type} {f : ag→bH} (l : List β) (st : Nat→γ→ag) (go : β→γ→γ ⊕ (Ex×ag)) (E : γ→ag) (Inv : Nat→γ→Prop) (g : γ) (h0 : Inv 0 g)
  (h : ∀ i b g,l[i]? = some b→i < l.length→Inv i g→f (st i g) = (match go b g with | .inl g'=>some (.normal,st (i + 1) g') | .inr o=>lv o))
  (hI : ∀ i b g g',l[i]? = some b→Inv i g→go b g = .inl g'→Inv (i + 1) g')
  (hend : ∀ g,Inv l.length g→f (st l.length g) = some (.exit xt,E g)) :
  aF f (st 0 g) = match iG go l g with | .inl g'=>some (.exit xt,E g') | .inr o=>lv o:=by
 suffices H : ∀ (r : List β) (i : Nat) (g : γ),Inv i g→l.drop i = r→i≤l.length→aF f (st i g) = match iG go r g with | .inl g'=>some (.exit xt,E g') | .inr o=>lv o from H l 0 g h0 rfl (Nat.zero_le _)
 intro r
 induction r with
 | nil =>
  intro i g hi hr hl
  have : i = l.length:=by
   have:=congrArg List.length hr
   simp at this
   omega
  subst this
  rw [gS,hend g hi]
  rfl
 | cons b r ih =>
  intro i g hi hr hl
  have hlt : i < l.length:=by
   rcases Nat.lt_or_ge i l.length with h | h
   ·exact h
   ·rw [List.drop_eq_nil_of_le h] at hr; cases hr
  have hb : l[i]? = some b:=by
   have:=List.drop_eq_getElem_cons hlt
   rw [hr] at this
   rw [List.getElem?_eq_getElem hlt]
   cases this; rfl
  have hr' : l.drop (i + 1) = r:=by
   have:=List.drop_eq_getElem_cons hlt
   rw [hr] at this
   cases this; rfl
  rw [gS,h i b g hb hlt hi]
  unfold iG
  cases hg : go b g with
  | inl g'=>exact ih (i + 1) g' (hI i b g g' hb hi hg) hr' hlt
  | inr o =>
   obtain ⟨e,s⟩:=o
   cases e <;> simp [dx,lv]
def aI {α : Type} (p : α→Bool) (l : List α) : Bool:=l.all p
theorem lE {α : Type} {p : α→Bool} {l : List α} : aI p l = true↔∀ x∈l,p x = true:=List.all_eq_true
theorem cq {xt : Nat} {β : Type} {f : ag→bH} (l : List β) (st : Nat→ag) (p : β→Bool) (R E : ag)
  (h : ∀ i b,l[i]? = some b→i < l.length→f (st i) = if p b = true then some (.normal,st (i + 1)) else some (.ret,R))
  (hend : f (st l.length) = some (.exit xt,E)) :
  aF f (st 0) = if aI p l = true then some (.exit xt,E) else some (.ret,R):=by
 show _ = if l.all p = true then _ else _
 have H:=yq (f:=f) l (fun i (_ : Unit)=>st i) (fun b _=>if p b = true then .inl () else .inr (.ret,R)) (fun _=>E) (fun _ _=>True) () trivial
  (fun i b g hb hl _=>by rw [h i b hb hl]; by_cases hp : p b = true <;> simp [hp,lv]) (fun _ _ _ _ _ _ _=>trivial) fun _ _=>hend
 refine H.trans ?_
 have : ∀ r : List β,iG (fun b (_ : Unit)=>if p b = true then .inl () else .inr (Ex.ret,R)) r () = if r.all p = true then .inl () else .inr (.ret,R):=by
  intro r
  induction r with
  | nil=>rfl
  | cons b r ih =>
   simp only [iG]
   by_cases hp : p b = true
   ·simp [hp,ih]
   ·simp [hp]
 rw [this]
 by_cases hp : l.all p = true <;> simp [hp,lv]
theorem CA {xt : Nat} {β γ : Type} {f : ag→bH} (l : List β) (st : Nat→γ→ag) (go : γ→β→γ) (E : γ→ag) (Inv : Nat→γ→Prop) (g : γ) (h0 : Inv 0 g)
  (h : ∀ i b g,l[i]? = some b→i < l.length→Inv i g→f (st i g) = some (.normal,st (i + 1) (go g b)))
  (hI : ∀ i b g,l[i]? = some b→Inv i g→Inv (i + 1) (go g b))
  (hend : ∀ g,Inv l.length g→f (st l.length g) = some (.exit xt,E g)) :
  aF f (st 0 g) = some (.exit xt,E (l.foldl go g)):=by
 refine (yq (f:=f) l st (fun b g=>.inl (go g b)) E Inv g h0 h (fun i b g g' hb hi e=>by cases e; exact hI i b g hb hi) hend).trans ?_
 have : ∀ (r : List β) (g : γ),iG (fun b g=>.inl (go g b)) r g = (.inl (r.foldl go g) : γ ⊕ (Ex×ag)):=by
  intro r
  induction r with
  | nil=>intro g; rfl
  | cons b r ih=>intro g; simp only [iG,List.foldl_cons]; exact ih _
 rw [this]
theorem jc {xt : Nat} {β : Type} {f : ag→bH} (l : List β) (st : Nat→ag) (E : ag)
  (h : ∀ i b,l[i]? = some b→i < l.length→f (st i) = some (.normal,st (i + 1)))
  (hend : f (st l.length) = some (.exit xt,E)) : aF f (st 0) = some (.exit xt,E) :=
 CA l (fun i (_ : Unit)=>st i) (fun _ _=>()) (fun _=>E) (fun _ _=>True) () trivial (fun i b _ hb hl _=>h i b hb hl) (fun _ _ _ _ _=>trivial) fun _ _=>hend
theorem bV {n : Int} (h1 : -9223372036854775808≤n) (h2 : n≤9223372036854775807) : IntKind.i64.wrap n = n:=by
 simp only [IntKind.wrap,IntKind.signed,IntKind.bits,Bool.true_and,decide_eq_true_eq]
 split <;> rename_i h <;> simp at h <;> omega
theorem aL (n : Nat) (h : n < 9223372036854775807) : IntKind.i64.wrap (↑n + 1) = ↑n + 1:=bV (by omega) (by omega)
attribute [simp] base zo ep look Dm u0 Cy vS yy uD gC eE
abbrev ah:=List UInt8
@[simp] theorem ZZ (s : ah) : ByteArray.size ⟨s.toArray⟩ = s.length:=by simp [ByteArray.size]
@[simp] theorem str_inj (s t : ah) : ((⟨s.toArray⟩ : ByteArray) = ⟨t.toArray⟩)↔s = t:=by
 constructor
 ·intro h
  injection h with h
  simpa using congrArg Array.toList h
 ·rintro rfl; rfl
theorem TL (s t : ah) : (⟨s.toArray⟩ : ByteArray) ++ ⟨t.toArray⟩ = ⟨(s ++ t).toArray⟩:=by
 apply ByteArray.ext
 rw [ByteArray.data_append]
 simp
@[simp] def eS (s : ah) : List X:=[.str ⟨s.toArray⟩]
structure Wr where
 at_ : Int
 text : ah
 deriving DecidableEq
structure eK where
 cells : List ah
 pending : List Wr
 deriving DecidableEq
@[simp] def eW (w : Wr) : List X:=[.int .i64 w.at_,.str ⟨w.text.toArray⟩]
@[simp] def gm (m : Md) (d : eK) : List X:=[.row m 1 (d.cells.map eS),.row m 2 (d.pending.map eW)]
@[simp] theorem ZA (m : Md) (l : List ah) : X.bp m (l.map eS) = l.map eS:=by induction l <;> simp_all [X.bp,X.cQ,X.md]
@[simp] theorem ZE (m : Md) (l : List Wr) : X.bp m (l.map eW) = l.map eW:=by induction l <;> simp_all [X.bp,X.cQ,X.md]
@[simp] theorem XV (l : List ah) : X.clean.aP (l.map eS) = true:=by induction l <;> simp_all [X.clean.aP,X.clean.bC,X.clean]
@[simp] theorem XZ (l : List Wr) : X.clean.aP (l.map eW) = true:=by induction l <;> simp_all [X.clean.aP,X.clean.bC,X.clean]
def cY {α : Type} (f : α→Int→Int) : List α→Int→Int
 | [],n=>n
 | a :: l,n=>if f a n < 0 then -1 else cY f l (f a n)
theorem mI {xt : Nat} {β : Type} {f : ag→bH} (l : List β) (st : Nat→Int→ag) (z : β→Int→Int) (R : ag) (E : Int→ag) (n : Int) (hn : 0≤n) (hm : n≤9223372036854775807)
  (hz : ∀ a n,z a n≤n∨z a n < 0)
  (h : ∀ i b n,l[i]? = some b→i < l.length→0≤n→n≤9223372036854775807→f (st i n) = if z b n < 0 then some (.ret,R) else some (.normal,st (i + 1) (z b n)))
  (hend : ∀ n,f (st l.length n) = some (.exit xt,E n)) :
  aF f (st 0 n) = if cY z l n < 0 then some (.ret,R) else some (.exit xt,E (cY z l n)):=by
 have H:=yq (f:=f) l st (fun b n=>if z b n < 0 then .inr (.ret,R) else .inl (z b n)) E (fun _ n=>0≤n∧n≤9223372036854775807) n ⟨hn,hm⟩
  (fun i b n hb hl hi=>by rw [h i b n hb hl hi.1 hi.2]; by_cases hp : z b n < 0 <;> simp [hp,lv]) (fun i b g g' hb hi hg=>by
   by_cases hp : z b g < 0
   ·simp [hp] at hg
   ·simp [hp] at hg
    have:=hz b g
    omega) fun g _=>hend g
 refine H.trans ?_
 have : ∀ (r : List β) (n : Int),0≤n→iG (fun b n=>if z b n < 0 then .inr (Ex.ret,R) else .inl (z b n)) r n = if cY z r n < 0 then .inr (.ret,R) else .inl (cY z r n):=by
  intro r
  induction r with
  | nil=>intro n hn; rw [if_neg (by simp [cY]; omega)]; rfl
  | cons b r ih =>
   intro n hn
   simp only [iG,cY]
   by_cases hp : z b n < 0
   ·simp [hp]
   ·simp only [hp,if_false]
    exact ih _ (by omega)
 rw [this l n hn]
 by_cases hp : cY z l n < 0 <;> simp [hp,lv]
theorem RU {α β : Type} (l : List α) (e : α→β) (z : β) (g : β→β) {i : Nat} (hi : i < l.length) (hg : g z = e l[i]) :
  ((l.take i).map e ++ List.replicate (l.length - i) z).modify i g = (l.take (i + 1)).map e ++ List.replicate (l.length - (i + 1)) z:=by
 apply List.ext_getElem?
 intro j
 rw [List.getElem?_modify]
 rcases Nat.lt_trichotomy j i with h | h | h
 ·rw [List.getElem?_append_left (by simp; omega),List.getElem?_append_left (by simp; omega)]
  simp only [List.getElem?_map,List.getElem?_take,if_pos h,if_pos (Nat.lt_succ_of_lt h),if_neg (Nat.ne_of_gt h)]
  cases l[j]? <;> rfl
 ·subst h
  rw [List.getElem?_append_right (by simp; omega),List.getElem?_append_left (by simp; omega)]
  have : j - ((l.take j).map e).length = 0:=by simp; omega
  rw [this,List.getElem?_replicate_of_lt (by omega)]
  simp only [List.getElem?_map,List.getElem?_take,if_pos (Nat.lt_succ_self j),List.getElem?_eq_getElem hi,if_true,Option.map_some,← hg]
  rfl
 ·rw [List.getElem?_append_right (by simp; omega),List.getElem?_append_right (by simp; omega)]
  have h1 : j - ((l.take i).map e).length = j - i:=by simp; omega
  have h2 : j - ((l.take (i + 1)).map e).length = j - (i + 1):=by simp; omega
  rw [h1,h2,List.getElem?_replicate,List.getElem?_replicate]
  by_cases h3 : j < l.length
  ·rw [if_pos (by omega),if_pos (by omega)]
   simp only [Nat.ne_of_lt h,if_false]
   rfl
  ·rw [if_neg (by omega),if_neg (by omega)]
   rfl
def cL (rows : List (List X)) (i : Nat) (z : List X) : List (List X):=rows.take i ++ List.replicate (rows.length - i) z
@[simp] theorem YT (rows : List (List X)) (i : Nat) (z : List X) : (cL rows i z).length = rows.length:=by simp [cL]; omega
@[simp] theorem ML (rows : List (List X)) (i : Nat) (z : List X) (h : i < rows.length) : (cL rows i z)[i]? = some z:=by
 unfold cL
 rw [List.getElem?_append_right (by simp; omega),List.getElem?_replicate_of_lt (by simp; omega)]
@[simp] theorem YS (rows : List (List X)) (i : Nat) (z : List X) (h : i < (cL rows i z).length) : (cL rows i z)[i] = z:=by
 have h' : i < rows.length:=by simpa using h
 have:=ML rows i z h'
 rw [List.getElem?_eq_getElem h] at this
 exact Option.some.inj this
@[simp] theorem YU (rows : List (List X)) (z : List X) : cL rows 0 z = List.replicate rows.length z:=by simp [cL]
@[simp] theorem YR (rows : List (List X)) (i : Nat) (z : List X) (h : i = rows.length) : cL rows i z = rows:=by subst h; simp [cL]
@[simp] theorem eP (rows : List (List X)) (i : Nat) (z : List X) (g : List X→List X) (h : i < rows.length) (hg : g z = rows[i]) : (cL rows i z).modify i g = cL rows (i + 1) z:=by
 have:=RU rows id z g h (by simpa using hg)
 simpa [cL] using this
theorem kV {α : Type} (l : List α) (i : Nat) (f g : α→α) : (l.modify i f).modify i g = l.modify i fun x=>g (f x):=by
 apply List.ext_getElem?
 intro j
 simp only [List.getElem?_modify]
 by_cases h : i = j
 ·simp only [h,if_true]; cases l[j]? <;> rfl
 ·simp only [h,if_false]; cases l[j]? <;> rfl
theorem iJ {α β : Type} : ∀ {a : List α} {b : List β},a.length = b.length→∃ ps : List (α×β),a = ps.map Prod.fst∧b = ps.map Prod.snd
 | [],[],_=>⟨[],rfl,rfl⟩
 | x :: a,y :: b,h=>by
  obtain ⟨ps,h1,h2⟩:=iJ (a:=a) (b:=b) (by simpa using h)
  exact ⟨(x,y) :: ps,by simp [← h1],by simp [← h2]⟩
 | [],_ :: _,h=>by cases h
 | _ :: _,[],h=>by cases h
def bM {α : Type} [DecidableEq α] (x : α×α) : Bool:=decide (x.1 = x.2)
theorem hU {α : Type} [DecidableEq α] : ∀ ps : List (α×α),aI bM ps = decide (ps.map Prod.fst = ps.map Prod.snd)
 | []=>rfl
 | x :: ps=>by
  have:=hU ps
  unfold aI at this ⊢
  simp only [List.all_cons,this,bM,List.map_cons,List.cons.injEq]
  exact (Bool.decide_and ..).symm
def jB (new old : List (List X)) (i : Nat) : List (List X):=new.take i ++ old.drop i
@[simp] theorem Fj (new old : List (List X)) (i : Nat) (h : new.length = old.length) : (jB new old i).length = old.length:=by simp [jB]; omega
@[simp] theorem MK (new old : List (List X)) (i : Nat) (h : new.length = old.length) (hi : i < old.length) : (jB new old i)[i]? = old[i]?:=by
 unfold jB
 rw [List.getElem?_append_right (by simp; omega),List.getElem?_drop]
 congr 1
 simp; omega
@[simp] theorem YP (new old : List (List X)) (i : Nat) (hl : i < (jB new old i).length) (h : new.length = old.length) : (jB new old i)[i] = old[i]'(by rw [Fj _ _ _ h] at hl; exact hl):=by
 have hi : i < old.length:=by rw [Fj _ _ _ h] at hl; exact hl
 have:=MK new old i h hi
 rw [List.getElem?_eq_getElem hl,List.getElem?_eq_getElem hi] at this
 exact Option.some.inj this
@[simp] theorem YQ (new old : List (List X)) : jB new old 0 = old:=by simp [jB]
@[simp] theorem YO (new old : List (List X)) (i : Nat) (h : new.length = old.length) (hi : i = old.length) : jB new old i = new:=by subst hi; rw [← h]; simp [jB]; omega
def og (n : Nat) (out : ah) : ah:=if h : n = 0 then out else og (n / 10) (UInt8.ofNat (48 + n % 10) :: out)
termination_by n
decreasing_by omega
def ud (k : Int) : ah:=if k≤0 then [109,48] else 109 :: og k.toNat []
def ue (n : Nat) (k : Int) : List ah:=(List.range n).map fun (i : Nat)=>ud (k + i)
def uf (n : Nat) (k : Int) : List Wr:=(List.range n).map fun (i : Nat)=>⟨k + 2 * i,ud (k + 2 * i + 1)⟩
@[simp] theorem Zk (n : Nat) (k : Int) : (ue n k).length = n:=by simp [ue]
@[simp] theorem Zm (n : Nat) (k : Int) : (uf n k).length = n:=by simp [uf]
@[simp] theorem Zj (n : Nat) (k : Int) (i : Nat) (h : i < (ue n k).length) : (ue n k)[i] = ud (k + i):=by simp [ue]
@[simp] theorem Zl (n : Nat) (k : Int) (i : Nat) (h : i < (uf n k).length) : (uf n k)[i] = ⟨k + 2 * i,ud (k + 2 * i + 1)⟩:=by simp [uf]
def foldI {β γ : Type} (go : Nat→γ→β→γ) : Nat→List β→γ→γ
 | _,[],g=>g
 | i,b :: l,g=>foldI go (i + 1) l (go i g b)
theorem CB {xt : Nat} {β γ : Type} {f : ag→bH} (l : List β) (st : Nat→γ→ag) (go : Nat→γ→β→γ) (E : γ→ag) (Inv : Nat→γ→Prop) (g : γ) (h0 : Inv 0 g)
  (h : ∀ i b g,l[i]? = some b→i < l.length→Inv i g→f (st i g) = some (.normal,st (i + 1) (go i g b)))
  (hI : ∀ i b g,l[i]? = some b→Inv i g→Inv (i + 1) (go i g b))
  (hend : ∀ g,Inv l.length g→f (st l.length g) = some (.exit xt,E g)) :
  aF f (st 0 g) = some (.exit xt,E (foldI go 0 l g)):=by
 suffices H : ∀ (r : List β) (i : Nat) (g : γ),Inv i g→l.drop i = r→i≤l.length→aF f (st i g) = some (.exit xt,E (foldI go i r g)) from H l 0 g h0 rfl (Nat.zero_le _)
 intro r
 induction r with
 | nil =>
  intro i g hi hr hl
  have : i = l.length:=by
   have:=congrArg List.length hr
   simp at this
   omega
  subst this
  rw [gS,hend g hi]
  rfl
 | cons b r ih =>
  intro i g hi hr hl
  have hlt : i < l.length:=by
   rcases Nat.lt_or_ge i l.length with h | h
   ·exact h
   ·rw [List.drop_eq_nil_of_le h] at hr; cases hr
  have hd:=List.drop_eq_getElem_cons hlt
  rw [hr] at hd
  have hb : l[i]? = some b:=by
   rw [List.getElem?_eq_getElem hlt]
   cases hd; rfl
  have hr' : l.drop (i + 1) = r:=by cases hd; rfl
  rw [gS,h i b g hb hlt hi]
  exact ih (i + 1) _ (hI i b g hb hi) hr' hlt
@[simp] theorem ZF (cs : List ah) (n : Nat) (t : ah) : (cs.map eS).modify n (fun x=>x.set 0 (X.str ⟨t.toArray⟩)) = (cs.set n t).map eS:=by
 apply List.ext_getElem?
 intro j
 rw [List.getElem?_modify,List.getElem?_map,List.getElem?_map,List.getElem?_set]
 by_cases h : n = j
 ·subst h
  simp only [if_true]
  by_cases h2 : n < cs.length
  ·simp [h2]
  ·simp [h2,List.getElem?_eq_none (Nat.le_of_not_lt h2)]
 ·simp only [h,if_false]
  cases cs[j]? <;> rfl
@[simp] def eB (b : Bool) : List X:=[.bool b]
@[simp] theorem Zo (m : Md) (l : List Bool) : X.bp m (l.map eB) = l.map eB:=by induction l <;> simp_all [X.bp,X.cQ,X.md]
@[simp] theorem XI (l : List Bool) : X.clean.aP (l.map eB) = true:=by induction l <;> simp_all [X.clean.aP,X.clean.bC,X.clean]
theorem Tv (l : List ah) : eY (l.map eS) = true:=by induction l <;> simp_all [eY,scalar]
theorem Tw (l : List Wr) : eY (l.map eW) = true:=by induction l <;> simp_all [eY,scalar]
attribute [simp] Tv Tw
@[simp] theorem XH (a b : List (List X)) : X.clean.aP (a ++ b) = (X.clean.aP a && X.clean.aP b):=by
 induction a with
 | nil=>simp [X.clean.aP]
 | cons e a ih=>simp [X.clean.aP,ih,Bool.and_assoc]
@[simp] theorem Zn (m : Md) (a b : List (List X)) : X.bp m (a ++ b) = X.bp m a ++ X.bp m b:=by
 induction a with
 | nil=>simp [X.bp]
 | cons e a ih=>simp [X.bp,ih]
structure ke where
 code : List UInt8
 i : Nat
 h : Int
 hi : i≤code.length
 hl : code.length≤9223372036854775807
@[simp] def eU (b : UInt8) : List X:=[.int .u8 (b.toNat : Int)]
@[simp] theorem ZD (m : Md) (l : List UInt8) : X.bp m (l.map eU) = l.map eU:=by induction l <;> simp_all [X.bp,X.cQ,X.md]
@[simp] theorem XY (l : List UInt8) : X.clean.aP (l.map eU) = true:=by induction l <;> simp_all [X.clean.aP,X.clean.bC,X.clean]
def gj (c : ke) : List X:=[.row .sl 1 (c.code.map eU),.int .i64 c.i,.int .i64 c.h]
@[simp] theorem Yr (c : ke) : (gj c).length = 3:=rfl
@[simp] theorem Yt (c : ke) : (gj c).take 3 = gj c:=rfl
@[simp] theorem Yo (c : ke) : (gj c).drop 3 = []:=rfl
@[simp] theorem Ys (ks : List Nat) (c : ke) : X.kW ks (gj c) = gj c:=rfl
@[simp] theorem Yp (r : Nat) (p : Path) (c : ke) : X.en r p (gj c) = gj c:=rfl
@[simp] theorem Yq (r : Nat) (p : Path) (c : ke) : X.kP r p (gj c) = gj c:=rfl
@[simp] theorem Yn (c : ke) : X.clean.bC (gj c) = true:=by simp [gj,X.clean.bC,X.clean]
@[simp] theorem Ym (c : ke) : X.bare.fC (gj c) = true:=by simp [gj,X.bare.fC,X.bare]
end M
namespace M
open Go Go.RowKit
inductive Ty where
 | int (k : IntKind)
 | bool
 | str
 | row (ts : List Ty)
inductive e7 : Ty→X→Prop
 | int {k n} : (Lit.int k n).wf = true→e7 (.int k) (.int k n)
 | bool {b} : e7 .bool (.bool b)
 | str {s : ByteArray} : s.size≤maxLen→e7 .str (.str s)
 | row {ts xs} : xs.length≤maxLen→(∀ r : List X,r∈xs→r.length = ts.length)→(∀ (r : List X),r∈xs→∀ (j : Nat) ty x,ts[j]? = some ty→r[j]? = some x→e7 ty x)→e7 (.row ts) (.row .sl ts.length xs)
structure vF (w : World) (ty : Ty) (c : C) : Prop where
 cell : c.cell
 bT : c.bT
 fits : c.fits .sl
 ok : c.ok w (Zf (fun b _=>b < w.heap.size) fun _ _=>False)
 fp : ∀ b k,¬ c.fp b k
 rO : e7 ty c.er
def gJ (w : World) : List Ty→List Value→List C→Prop
 | [],[],[]=>True
 | ty :: ts,v :: vs,c :: cs=>c.val = v∧vF w ty c∧gJ w ts vs cs
 | _,_,_=>False
theorem FN {w : World} : ∀ {ts : List Ty} {vs : List Value} {cs : List C} {ts' : List Ty} {vs' : List Value} {cs' : List C},gJ w ts vs cs→gJ w ts' vs' cs'→gJ w (ts ++ ts') (vs ++ vs') (cs ++ cs')
 | [],[],[],_,_,_,_,h=>h
 | _ :: _,_ :: _,_ :: _,_,_,_,⟨h1,h2,h3⟩,h=>⟨h1,h2,FN h3 h⟩
theorem FO {w : World} : ∀ {ts : List Ty} {vs : List Value} {cs : List C},gJ w ts vs cs→vs.length = ts.length∧cs.length = ts.length∧vs = cs.map C.val
 | [],[],[],_=>⟨rfl,rfl,rfl⟩
 | _ :: _,_ :: _,_ :: _,⟨h1,h2,h3⟩=>by
  obtain ⟨e1,e2,e3⟩:=FO h3
  exact ⟨by simp [e1],by simp [e2],by simp [h1,← e3]⟩
theorem Bd {w : World} : ∀ {ts : List Ty} {vs : List Value} {cs : List C},gJ w ts vs cs→∀ {j : Nat},j < ts.length→∃ ty c,ts[j]? = some ty∧cs[j]? = some c∧vs[j]? = some c.val∧vF w ty c
 | ty :: ts,v :: vs,c :: cs,⟨h1,h2,h3⟩,0,_=>⟨ty,c,rfl,rfl,by simp [h1],h2⟩
 | ty :: ts,v :: vs,c :: cs,⟨h1,h2,h3⟩,j + 1,h=>by
  obtain ⟨ty,c,a1,a2,a3,a4⟩:=Bd h3 (j:=j) (by simpa using h)
  exact ⟨ty,c,by simpa using a1,by simpa using a2,by simpa using a3,a4⟩
def rq (P : Program) (r : TypeId→Option (List Ty)) : Nat→List Field→Option (List Ty)
 | _,[]=>some []
 | o,f :: fs=>if f.offset = o then (r f.type).bind fun ts=>if ts.length = P.cellsOf f.type then (rq P r (o + ts.length) fs).map (ts ++ ·) else none else none
def fy (P : Program) : Nat→Bool→TypeId→Option (List Ty)
 | 0,_,_=>none
 | n + 1,deep,t=>match P.underlying t with
  | some .bool=>some [.bool]
  | some (.int k)=>some [.int k]
  | some .string=>some [.str]
  | some (.slice e)=>if deep then (fy P n true e).bind fun ts=>if ts.length = P.cellsOf e∧0 < P.cellsOf e then some [.row ts] else none else none
  | some (.struct fs)=>(rq P (fy P n deep) 0 fs.toList).bind fun ts=>if ts.length = P.cellsOf t then some ts else none
  | _=>none
section
variable {H : Type} {enc : TypeId×Value→H} {P : Program} {w : World} {sp : Nat→Bool} {held : Bool}
theorem HV {r : TypeId→Option (List Ty)} {cs : List Value}
  (hr : ∀ t ts fuel cs' x,r t = some ts→DataW.trod enc P w 0 sp held fuel t cs' = some x→(∀ v∈cs',v∈cs)→∃ Cs,gJ w ts cs' Cs) :
  ∀ (fs : List Field) (o : Nat) (ts : List Ty),rq P r o fs = some ts→(∀ f∈fs,∃ fuel x,DataW.trod enc P w 0 sp held fuel f.type ((cs.drop f.offset).take (P.cellsOf f.type)) = some x) →
   ∃ Cs,gJ w ts ((cs.drop o).take ts.length) Cs
 | [],o,ts,h,_=>by
  cases h
  exact ⟨[],by simp [gJ]⟩
 | f :: fs,o,ts,h,hx=>by
  simp only [rq] at h
  split at h
  ·rename_i ho
   simp only [Option.bind_eq_some_iff] at h
   obtain ⟨t1,h1,h⟩:=h
   split at h
   ·rename_i hl
    simp only [Option.map_eq_some_iff] at h
    obtain ⟨t2,h2,rfl⟩:=h
    obtain ⟨fuel,x,hf⟩:=hx f (List.mem_cons_self ..)
    obtain ⟨C1,g1⟩:=hr _ _ _ _ _ h1 hf fun v hv=>List.mem_of_mem_drop (List.mem_of_mem_take hv)
    obtain ⟨C2,g2⟩:=HV hr fs _ _ h2 fun f hf=>hx f (List.mem_cons_of_mem _ hf)
    refine ⟨C1 ++ C2,?_⟩
    rw [List.length_append,List.take_add,List.drop_drop]
    rw [ho,← hl] at g1
    exact FN g1 g2
   ·cases h
  ·cases h
theorem TF {w : World} {g o n m : Nat} {spot : Option Nat} {vs : List Value} (hn : 0 < n) (h : w.cells? 0 ((⟨g,o,spot⟩ : Addr).add (0 * m)) n = some vs) : spot = none:=by
 obtain ⟨_,hl,e3⟩:=World.cells?_some h
 have e4:=e3 0 hn
 have : ∃ v,vs[0]? = some v:=⟨vs[0],List.getElem?_eq_getElem (by omega)⟩
 obtain ⟨v,hv⟩:=this
 rw [hv] at e4
 have ha : ((⟨g,o,spot⟩ : Addr).add (0 * m)).add 0 = ⟨g,o,spot⟩:=by simp [Addr.add]
 rw [ha] at e4
 unfold World.cell? at e4
 cases spot with
 | none=>rfl
 | some k =>
  split at e4
  ·simp at e4
  ·cases e4
theorem trod_good : ∀ (n : Nat) (deep : Bool) (t : TypeId) (ts : List Ty),fy P n deep t = some ts→∀ (fuel : Nat) (cs : List Value) (x : DataW H×List MemPlace),DataW.trod enc P w 0 sp held fuel t cs = some x→∃ Cs,gJ w ts cs Cs
 | 0,_,_,_,h,_,_,_,_=>by cases h
 | n + 1,deep,t,ts,h,fuel,cs,x,hx=>by
  simp only [fy] at h
  split at h
  ·rename_i hu
   cases h
   obtain ⟨b,rfl,rfl⟩:=DataW.trod_bool hu hx
   exact ⟨[.bool b],rfl,⟨trivial,trivial,trivial,trivial,fun _ _ h=>h,.bool⟩,trivial⟩
  ·rename_i k hu
   cases h
   obtain ⟨m,rfl,rfl,hw⟩:=DataW.trod_int hu hx
   exact ⟨[.int k m],rfl,⟨trivial,trivial,trivial,trivial,fun _ _ h=>h,.int hw⟩,trivial⟩
  ·rename_i hu
   cases h
   obtain ⟨s,rfl,rfl,hw⟩:=DataW.trod_string hu hx
   exact ⟨[.str s],rfl,⟨trivial,trivial,trivial,hw,fun _ _ h=>h,.str hw⟩,trivial⟩
  ·rename_i e hu
   split at h
   ·rename_i hd
    simp only [Option.bind_eq_some_iff] at h
    obtain ⟨te,h1,h⟩:=h
    split at h
    ·rename_i hl
     obtain ⟨hl,hpos⟩:=hl
     cases h
     rcases DataW.trod_slice hu hx with ⟨rfl,rfl⟩ | ⟨a,len,cap,elems,rest,m,rfl,rfl,rfl,_,hlc,hcm,hel,jE,_,_⟩
     ·refine ⟨[.row .sl te.length none 0 0 fun _ _=>.dead undef],rfl,⟨trivial,trivial,.inr (.inl rfl),⟨Nat.le_refl _,fun i j hi=>by omega,fun i j hi=>by omega,fun h=>(by cases h),fun i j hi=>by omega⟩,fun b k h=>(by cases h.1),?_⟩,trivial⟩
      exact e7.row (xs:=[]) (by simp) (fun r hr=>by cases hr) (fun r hr=>by cases hr)
     ·obtain ⟨g,o,spot⟩:=a
      by_cases hl0 : len = 0
      ·subst hl0
       refine ⟨[.row .sl te.length (some (g,o,spot)) 0 cap fun _ _=>.dead undef],rfl,⟨trivial,trivial,.inr (.inl rfl),⟨hlc,fun i j hi=>by omega,fun i j hi=>by omega,fun h=>(by cases h),fun i j hi=>by omega⟩,fun b k h=>(by cases h.1),?_⟩,trivial⟩
       exact e7.row (xs:=[]) (by simp) (fun r hr=>by cases hr) (fun r hr=>by cases hr)
      have QZ : spot = none:=by
       have:=jE 0 (by omega)
       rw [List.getElem?_eq_getElem (by omega),Option.bind_eq_some_iff] at this
       obtain ⟨vs,e1,e2⟩:=this
       exact TF hpos e1
      subst QZ
      have hex : ∀ i,∃ (vs : List Value) (l : List C),i < len→w.cells? 0 ((⟨g,o,none⟩ : Addr).add (i * P.cellsOf e)) (P.cellsOf e) = some vs∧gJ w te vs l:=fun i=>by
       by_cases hi : i < len
       ·have:=jE i hi
        rw [List.getElem?_eq_getElem (by omega),Option.bind_eq_some_iff] at this
        obtain ⟨vs,e1,e2⟩:=this
        obtain ⟨l,hl⟩:=trod_good n true _ _ h1 _ _ _ e2
        exact ⟨vs,l,fun _=>⟨e1,hl⟩⟩
       ·exact ⟨[],[],fun h=>(hi h).elim⟩
      let vs:=fun i=>(hex i).choose
      let l:=fun i=>(hex i).choose_spec.choose
      have hvl : ∀ i,i < len→w.cells? 0 ((⟨g,o,none⟩ : Addr).add (i * P.cellsOf e)) (P.cellsOf e) = some (vs i)∧gJ w te (vs i) (l i):=fun i=>(hex i).choose_spec.choose_spec
      have hij : ∀ i j,i < len→j < te.length→∃ ty,te[j]? = some ty∧(l i)[j]? = some ((l i).getD j (.dead undef))∧w.cell? ⟨g,o + i * te.length + j,none⟩ = some ((l i).getD j (.dead undef)).val∧vF w ty ((l i).getD j (.dead undef)):=fun i j hi hj=>by
       obtain ⟨e1,e2⟩:=hvl i hi
       obtain ⟨ty,c,a1,a2,a3,a4⟩:=Bd e2 hj
       have hc : (l i).getD j (.dead undef) = c:=by rw [List.getD_eq_getElem?_getD,a2]; rfl
       rw [hc]
       obtain ⟨_,_,e3⟩:=World.cells?_some e1
       have e4:=e3 j (by omega)
       rw [a3] at e4
       refine ⟨ty,a1,a2,?_,a4⟩
       rw [← e4]
       congr 1
       rw [hl]
       unfold Addr.add
       split <;> split <;> simp_all
      have hb : ∀ i j,i < len→j < te.length→g < w.heap.size:=fun i j hi hj=>by
       obtain ⟨_,_,_,h3,_⟩:=hij i j hi hj
       exact World.block_lt_of_cell? w _ h3
      refine ⟨[.row .sl te.length (some (g,o,none)) len cap fun i j=>(l i).getD j (.dead undef)],rfl,⟨trivial,trivial,.inr (.inl rfl),⟨hlc,fun i j hi hj=>⟨g,o,rfl,?_,fun _=>hb i j hi hj⟩,fun i j hi hj=>?_,fun h=>(by cases h),fun i j hi hj b k hf=>?_⟩,fun b k h=>(by cases h.1),?_⟩,trivial⟩
      ·obtain ⟨ty,_,_,h3,h4⟩:=hij i j hi hj
       exact h3
      ·obtain ⟨ty,_,_,h3,h4⟩:=hij i j hi hj
       exact ⟨h4.cell,h4.bT,h4.fits,h4.ok⟩
      ·obtain ⟨ty,_,_,h3,h4⟩:=hij i j hi hj
       exact (h4.fp b k hf).elim
      ·refine e7.row (by simpa using Nat.le_trans hlc hcm) (fun r hr=>?_) fun r hr j ty x hty BC=>?_
       ·simp only [List.mem_map,List.mem_range] at hr
        obtain ⟨i,_,rfl⟩:=hr
        simp
       ·simp only [List.mem_map,List.mem_range] at hr
        obtain ⟨i,hi,rfl⟩:=hr
        have hj : j < te.length:=by
         rcases Nat.lt_or_ge j te.length with h | h
         ·exact h
         ·rw [List.getElem?_eq_none h] at hty; cases hty
        obtain ⟨ty',e1,_,_,h4⟩:=hij i j hi hj
        rw [e1] at hty
        cases hty
        rw [List.getElem?_map,List.getElem?_range hj] at BC
        simp only [Option.map_some,Option.some.injEq] at BC
        subst BC
        exact h4.rO
    ·cases h
   ·cases h
  ·rename_i fs hu
   simp only [Option.bind_eq_some_iff] at h
   obtain ⟨te,h1,h⟩:=h
   split at h
   ·rename_i hl
    cases h
    obtain ⟨xs,m,rfl,rfl,hcs,hxl,jE⟩:=DataW.trod_struct hu hx
    obtain ⟨Cs,hC⟩:=HV (cs:=cs) (fun t ts' fuel cs' x hr ht hm=>trod_good n deep t ts' hr fuel cs' x ht) fs.toList 0 ts h1 fun f hf=>by
     obtain ⟨i,hi,rfl⟩:=List.getElem_of_mem hf
     have hi' : i < fs.size:=by simpa using hi
     have:=jE i (fs[i]) (by simp [hi'])
     rw [List.getElem?_eq_getElem (by omega)] at this
     exact ⟨_,_,by simpa using this⟩
    refine ⟨Cs,?_⟩
    rw [List.drop_zero,hl,← hcs,List.take_length] at hC
    exact hC
   ·cases h
  ·cases h
theorem Dz : ∀ (n : Nat) (deep : Bool) (t : TypeId) (ts : List Ty),fy P n deep t = some ts→∀ (fuel : Nat) (cs : List Value) (x : DataW H×List MemPlace),DataW.trod enc P w 0 (fun _=>true) held fuel t cs = some x→DataW.trod enc P w 0 (fun b=>decide (b < w.heap.size)) held fuel t cs = some x
 | 0,_,_,_,h,_,_,_,_=>by cases h
 | n + 1,deep,t,ts,h,0,cs,x,hx=>by simp [DataW.trod] at hx
 | n + 1,deep,t,ts,h,fuel + 1,cs,x,hx=>by
  simp only [fy] at h
  split at h
  ·rename_i hu
   obtain ⟨b,rfl,rfl⟩:=DataW.trod_bool hu hx
   simp [DataW.trod,hu]
  ·rename_i k hu
   obtain ⟨m,rfl,rfl,hw⟩:=DataW.trod_int hu hx
   simp [DataW.trod,hu,hw]
  ·rename_i hu
   obtain ⟨s,rfl,rfl,hw⟩:=DataW.trod_string hu hx
   simp [DataW.trod,hu,hw]
  ·rename_i e hu
   split at h
   ·simp only [Option.bind_eq_some_iff] at h
    obtain ⟨te,h1,h⟩:=h
    split at h
    ·rename_i hl
     obtain ⟨hl,hpos⟩:=hl
     rcases DataW.trod_slice hu hx with ⟨rfl,rfl⟩ | ⟨a,len,cap,elems',rest',m,_,rfl,_⟩
     ·simp [DataW.trod,hu]
     ·unfold DataW.trod at hx ⊢
      simp only [hu] at hx ⊢
      split at hx
      ·rename_i hc
       rw [if_pos hc]
       simp only [Option.map_eq_some_iff,Option.bind_eq_some_iff,if_true] at hx ⊢
       obtain ⟨elems,he,rest,nK,rfl⟩:=hx
       have one : ∀ (i : Nat) (y : DataW H×List MemPlace),(w.cells? 0 (a.add (i * P.cellsOf e)) (P.cellsOf e)).bind (DataW.trod enc P w 0 (fun _=>true) held fuel e) = some y→(w.cells? 0 (a.add (i * P.cellsOf e)) (P.cellsOf e)).bind (DataW.trod enc P w 0 (fun b=>decide (b < w.heap.size)) held fuel e) = some y:=fun i y hv=>by
        simp only [Option.bind_eq_some_iff] at hv ⊢
        obtain ⟨cs',fV,hy'⟩:=hv
        exact ⟨cs',fV,Dz n true _ _ h1 _ _ _ hy'⟩
       refine ⟨elems,mapM_carry he fun i y _ _ hv=>one i y hv,rest,?_,rfl⟩
       by_cases hb : a.block < w.heap.size
       ·rw [if_pos (by simpa using hb)]
        exact mapM_carry nK fun i y _ _ hv=>one (len + i) y hv
       ·rw [if_neg (by simpa using hb)]
        have : cap - len = 0:=by
         rcases Nat.eq_zero_or_pos (cap - len) with h | h
         ·exact h
         ·have h0:=mapM_some_get nK 0 0 (by simp [h])
          have hl' : 0 < rest.length:=by have:=mapM_some_length nK; simp at this; omega
          rw [List.getElem?_eq_getElem hl',Option.bind_eq_some_iff] at h0
          obtain ⟨vs,e1,_⟩:=h0
          have:=World.cells?_block e1 hpos
          refine (hb ?_).elim
          unfold Addr.add at this
          split at this <;> exact this
        rw [this] at nK
        exact nK
      ·cases hx
    ·cases h
   ·cases h
  ·rename_i fs hu
   simp only [Option.bind_eq_some_iff] at h
   obtain ⟨te,h1,h⟩:=h
   unfold DataW.trod at hx ⊢
   simp only [hu] at hx ⊢
   have each : ∀ (o : Nat) (l : List Field) (ts : List Ty),rq P (fy P n deep) o l = some ts→∀ f∈l,∃ t1,fy P n deep f.type = some t1:=by
    intro o l
    induction l generalizing o with
    | nil=>intro _ _ f hf; cases hf
    | cons f l ih =>
     intro ts h f' hf'
     simp only [rq] at h
     split at h
     ·simp only [Option.bind_eq_some_iff] at h
      obtain ⟨t1,e1,h⟩:=h
      split at h
      ·simp only [Option.map_eq_some_iff] at h
       obtain ⟨t2,e2,_⟩:=h
       rcases List.mem_cons.1 hf' with rfl | hf'
       ·exact ⟨t1,e1⟩
       ·exact ih _ _ e2 f' hf'
      ·cases h
     ·cases h
   split at hx
   ·rename_i hc
    rw [if_pos hc]
    simp only [Option.map_eq_some_iff] at hx ⊢
    obtain ⟨xs,hx,rfl⟩:=hx
    refine ⟨xs,mapM_carry hx fun f y hf _ hv=>?_,rfl⟩
    obtain ⟨t1,e1⟩:=each _ _ _ h1 f hf
    exact Dz n deep _ _ e1 _ _ _ hv
   ·cases hx
  ·cases h
inductive iK where
 | one (ty : Ty)
 | agg (tys : List Ty)
inductive lq : iK→X→Prop
 | one {ty x} : e7 ty x→lq (.one ty) x
 | agg {tys : List Ty} {l : List X} : l.length = tys.length→(∀ (j : Nat) ty x,tys[j]? = some ty→l[j]? = some x→e7 ty x)→lq (.agg tys) (.agg l)
def ni (P : Program) (t : TypeId) : Option iK:=match P.underlying t with
 | some (.struct _)=>(fy P 20 true t).map .agg
 | some .bool=>some (.one .bool)
 | some (.int k)=>some (.one (.int k))
 | some .string=>some (.one .str)
 | some (.slice _)=>(fy P 20 true t).bind fun
  | [ty]=>some (.one ty)
  | _=>none
 | _=>none
theorem D7 {c : C} (h1 : c.cell) (h2 : c.bT) : c.bare:=by
 cases c <;> first | trivial | exact h2.elim
structure DP (w : World) (a : iK) (v : Value) (c : C) : Prop where
 val : c.val = v
 ok : c.ok w (Zf (fun b _=>b < w.heap.size) fun _ _=>False)
 bare : c.bare
 fp : ∀ b k,¬ c.fp b k
 rO : lq a c.er
theorem wB {ty : Ty} {cs : List Value} {Cs : List C} {v : Value} (h : gJ w [ty] cs Cs) (e : cs = [v]) : ∃ c,DP w (.one ty) v c:=by
 subst e
 match Cs,h with
 | [c],⟨h1,h2,_⟩=>exact ⟨c,h1,h2.ok,D7 h2.cell h2.bT,h2.fp,.one h2.rO⟩
theorem J2 {r : Reach} {base : Nat} {t : TypeId} {v : Value} {d : DataW H} {p : List MemPlace} {a : iK} (ha : ni P t = some a) (hv : Value.okWide P w r base t v) (hd : DataW.Trod enc P w 0 sp held t v d p) : ∃ c,DP w a v c:=by
 obtain ⟨fuel,hf⟩:=hd
 unfold ni at ha
 split at ha
 ·rename_i fs hu
  simp only [Option.map_eq_some_iff] at ha
  obtain ⟨ts,ht,rfl⟩:=ha
  unfold Value.okWide at hv
  rw [hu] at hv
  obtain ⟨cs,rfl,_,ts',_,_,hcell⟩:=hv
  obtain ⟨Cs,hC⟩:=trod_good _ _ _ _ ht _ _ _ hf
  obtain ⟨l1,l2,l3⟩:=FO hC
  have jE : ∀ j,j < Cs.length→∃ ty,ts[j]? = some ty∧vF w ty (Cs.getD j (.dead undef)):=fun j hj=>by
   obtain ⟨ty,c,a1,a2,a3,a4⟩:=Bd hC (j:=j) (by omega)
   exact ⟨ty,a1,by rw [List.getD_eq_getElem?_getD,a2]; exact a4⟩
  refine ⟨.agg Cs.length fun j=>Cs.getD j (.dead undef),?_,⟨fun j hj=>?_,fun j hj b k hf=>?_⟩,fun j hj=>?_,fun b k ⟨j,hj,hf⟩=>?_,?_⟩
  ·show Value.agg _ = _
   congr 1
   apply Array.ext'
   show (List.range Cs.length).map (fun j=>(Cs.getD j (.dead undef)).val) = cs.toList
   have : (Value.agg cs).cells.toList = cs.toList:=rfl
   rw [← this,l3]
   letI : Bs:=⟨w⟩
   exact iE Cs _ C.val
  ·obtain ⟨_,_,h⟩:=jE j hj; exact ⟨h.cell,h.ok⟩
  ·obtain ⟨_,_,h⟩:=jE j hj; exact (h.fp b k hf).elim
  ·obtain ⟨_,_,h⟩:=jE j hj; exact D7 h.cell h.bT
  ·obtain ⟨_,_,h⟩:=jE j hj; exact h.fp b k hf
  ·refine lq.agg (by simpa using l2) fun j ty x hty hx=>?_
   have hj : j < Cs.length:=by
    rcases Nat.lt_or_ge j Cs.length with h | h
    ·exact h
    ·rw [List.getElem?_eq_none (by simpa using h)] at hx; cases hx
   obtain ⟨ty',e1,h⟩:=jE j hj
   rw [e1] at hty
   cases hty
   rw [List.getElem?_map,List.getElem?_range hj] at hx
   simp only [Option.map_some,Option.some.injEq] at hx
   subst hx
   exact h.rO
 ·rename_i hu
  cases ha
  obtain ⟨Cs,hC⟩:=trod_good 1 true t [.bool] (by simp [fy,hu]) _ _ _ hf
  obtain ⟨b,hb,_⟩:=DataW.trod_bool hu hf
  exact wB hC (v:=v) (by
   unfold Value.okWide at hv; rw [hu] at hv
   unfold Cell.okWide at hv; rw [hu] at hv; unfold Cell.ok at hv; rw [hu] at hv
   cases v <;> first | rfl | (simp at hv; done))
 ·rename_i k hu
  cases ha
  obtain ⟨m,hb,_⟩:=DataW.trod_int hu hf
  obtain ⟨Cs,hC⟩:=trod_good 1 true t [.int k] (by simp [fy,hu]) _ _ _ hf
  exact wB hC (v:=v) (by
   unfold Value.okWide at hv; rw [hu] at hv
   unfold Cell.okWide at hv; rw [hu] at hv; unfold Cell.ok at hv; rw [hu] at hv
   cases v <;> first | rfl | (simp at hv; done))
 ·rename_i hu
  cases ha
  obtain ⟨m,hb,_⟩:=DataW.trod_string hu hf
  obtain ⟨Cs,hC⟩:=trod_good 1 true t [.str] (by simp [fy,hu]) _ _ _ hf
  exact wB hC (v:=v) (by
   unfold Value.okWide at hv; rw [hu] at hv
   unfold Cell.okWide at hv; rw [hu] at hv; unfold Cell.ok at hv; rw [hu] at hv
   cases v <;> first | rfl | (simp at hv; done))
 ·rename_i e hu
  simp only [Option.bind_eq_some_iff] at ha
  obtain ⟨ts,ht,ha⟩:=ha
  split at ha
  ·rename_i ty
   cases ha
   have hc : Cell.okWide P w r base t v:=by unfold Value.okWide at hv; rw [hu] at hv; exact hv
   have hv1 : v.cells.toList = [v]:=by
    unfold Cell.okWide at hc; rw [hu] at hc; unfold Cell.ok at hc; rw [hu] at hc
    cases v <;> first | rfl | (simp at hc; done)
   obtain ⟨Cs,hC⟩:=trod_good _ _ _ _ ht _ _ _ hf
   exact wB hC hv1
  ·cases ha
 ·cases ha
def oL : List iK→List X→Prop
 | [],[]=>True
 | a :: as,x :: xs=>lq a x∧oL as xs
 | _,_=>False
theorem DZ {r : Reach} {base : Nat} : ∀ {ts : List TypeId} {as : List iK} {vs : List Value} {ds : List (DataW H)} {p : List MemPlace},ts.map (ni P) = as.map some →
  (∀ (j : Nat) t v,ts[j]? = some t→vs[j]? = some v→Value.okWide P w r base t v)→DataW.TrodAll enc P w 0 sp held ts vs ds p →
  ∃ cs : List C,cs.map C.val = vs∧(∀ c∈cs,c.ok w (Zf (fun b _=>b < w.heap.size) fun _ _=>False)∧c.bare∧∀ b k,¬ c.fp b k)∧oL as (cs.map C.er)
 | [],[],[],[],_,_,_,_=>⟨[],rfl,fun _ h=>(by cases h),trivial⟩
 | t :: ts,a :: as,v :: vs,d :: ds,_,ha,hv,⟨p,q,h1,h2,_⟩=>by
  simp only [List.map_cons,List.cons.injEq] at ha
  obtain ⟨c,hc⟩:=J2 ha.1 (hv 0 t v rfl rfl) h1
  obtain ⟨cs,e1,e2,e3⟩:=DZ ha.2 (fun j t' v' ht di=>hv (j + 1) t' v' (by simpa using ht) (by simpa using di)) h2
  refine ⟨c :: cs,by simp [hc.val,e1],fun x hx=>?_,⟨hc.rO,e3⟩⟩
  rcases List.mem_cons.1 hx with rfl | hx
  ·exact ⟨hc.ok,hc.bare,hc.fp⟩
  ·exact e2 x hx
theorem XE {r : Reach} {base : Nat} {ts : List TypeId} {as : List iK} {vs : List Value} {ds : List (DataW H)} {p : List MemPlace} {f : FuncId} (ha : ts.map (ni P) = as.map some)
  (hv : ∀ (j : Nat) t v,ts[j]? = some t→vs[j]? = some v→Value.okWide P w r base t v) (hd : DataW.TrodAll enc P w 0 sp held ts vs ds p)
  (P8 : ∀ xs,oL as xs→@AC ⟨w⟩ P f xs fun r _=>r = .bool true) : Calls P f vs.toArray w fun e w'=>e = .returned (.bool true)∧Below w.heap.size w w':=by
 obtain ⟨cs,rfl,hcs,hc⟩:=DZ ha hv hd
 refine (P8 _ hc w (fun b _=>b < w.heap.size) (fun _ _=>False) cs rfl ⟨fun x hx=>(hcs x hx).1,fun x hx=>(hcs x hx).2.1,fun x hx b k hf=>((hcs x hx).2.2 b k hf).elim,fun b k h=>h.elim id False.elim,?_⟩ fun b hb=>⟨rfl,fun k=>.inl hb⟩).mono fun e w' ⟨r,ps,aB,hD,hr⟩=>?_
 ·refine List.pairwise_iff_getElem.2 fun i j hi hj _ b k hf=>((hcs _ (List.getElem_mem hi)).2.2 b k hf).elim
 ·letI : Bs:=⟨w⟩
  have hr':=lU hr
  subst hr'
  exact ⟨hD.ends,(hD.ext.mono (S':=fun _ _=>False) fun b k ⟨x,hx,hf⟩ _=>(hcs x hx).2.2 b k hf).below⟩
theorem J1 {t : TypeId} {a : iK} (h : ni P t = some a) : ∃ n deep ts,fy P n deep t = some ts:=by
 unfold ni at h
 split at h
 ·simp only [Option.map_eq_some_iff] at h
  obtain ⟨ts,ht,_⟩:=h
  exact ⟨_,_,ts,ht⟩
 ·rename_i hu; exact ⟨1,true,[.bool],by simp [fy,hu]⟩
 ·rename_i k hu; exact ⟨1,true,[.int k],by simp [fy,hu]⟩
 ·rename_i hu; exact ⟨1,true,[.str],by simp [fy,hu]⟩
 ·simp only [Option.bind_eq_some_iff] at h
  obtain ⟨ts,ht,_⟩:=h
  exact ⟨_,_,ts,ht⟩
 ·cases h
theorem WT {w' : World} (hb : Below w.heap.size w w') : ∀ {ts : List TypeId} {as : List iK} {vs : List Value} {ds : List (DataW H)} {p : List MemPlace},ts.map (ni P) = as.map some →
  DataW.TrodAll enc P w 0 (fun _=>true) held ts vs ds p→DataW.TrodAll enc P w' 0 (fun b=>decide (b < w.heap.size)) held ts vs ds p
 | [],[],[],[],_,_,h=>h
 | t :: ts,a :: as,v :: vs,d :: ds,_,ha,⟨p,q,⟨fuel,h1⟩,h2,e⟩=>by
  simp only [List.map_cons,List.cons.injEq] at ha
  obtain ⟨n,deep,tt,ht⟩:=J1 ha.1
  have h3:=Dz n deep t tt ht _ _ _ h1
  exact ⟨p,q,⟨fuel,DataW.trod_carry _ _ _ _ h3 fun m hm=>hb.same (DataW.trod_lt _ _ _ _ h3 m hm)⟩,WT hb ha.2 h2,e⟩
end
end M
namespace M
open Go
def cA (ts : List Ty) (r : List X) : Prop:=r.length = ts.length∧∀ (j : Nat) ty x,ts[j]? = some ty→r[j]? = some x→e7 ty x
theorem cA.nil {r : List X} (h : cA [] r) : r = []:=List.length_eq_zero_iff.1 h.1
theorem cA.cons {ty : Ty} {ts : List Ty} {r : List X} (h : cA (ty :: ts) r) : ∃ x r',r = x :: r'∧e7 ty x∧cA ts r':=by
 obtain ⟨h1,h2⟩:=h
 cases r with
 | nil=>cases h1
 | cons x r=>exact ⟨x,r,rfl,h2 0 ty x rfl rfl,by simpa using h1,fun j ty x ht hx=>h2 (j + 1) ty x (by simpa using ht) (by simpa using hx)⟩
theorem ig {x : X} (h : e7 .str x) : ∃ s : ah,x = .str ⟨s.toArray⟩∧s.length≤9223372036854775807:=by
 cases h with
 | str h=>rename_i s; exact ⟨s.data.toList,by simp,by rw [Array.length_toList]; exact h⟩
theorem Ml {x : X} (h : e7 .bool x) : ∃ b,x = .bool b:=by cases h; exact ⟨_,rfl⟩
theorem J5 {n : Int} (h : (Lit.int .i64 n).wf = true) : -9223372036854775808≤n∧n≤9223372036854775807:=by
 have h' : (decide (IntKind.i64.min≤n) && decide (n≤IntKind.i64.max)) = true:=h
 rw [Bool.and_eq_true,decide_eq_true_eq,decide_eq_true_eq] at h'
 exact h'
theorem e9 {x : X} (h : e7 (.int .i64) x) : ∃ n : Int,x = .int .i64 n∧-9223372036854775808≤n∧n≤9223372036854775807:=by
 cases h with
 | int h =>
  rename_i n
  refine ⟨n,rfl,?_⟩
  exact J5 h
theorem GF {α : Type} {e : α→List X} {ok : α→Prop} : ∀ {xs : List (List X)},(∀ r∈xs,∃ a,r = e a∧ok a)→∃ l : List α,xs = l.map e∧∀ a∈l,ok a
 | [],_=>⟨[],rfl,fun _ h=>by cases h⟩
 | r :: xs,h=>by
  obtain ⟨a,e1,e2⟩:=h r (List.mem_cons_self ..)
  obtain ⟨l,e3,e4⟩:=GF (fun r hr=>h r (List.mem_cons_of_mem _ hr))
  refine ⟨a :: l,by simp [e1,e3],fun b hb=>?_⟩
  rcases List.mem_cons.1 hb with rfl | hb
  ·exact e2
  ·exact e4 b hb
theorem ic {α : Type} (e : α→List X) (ok : α→Prop) {ts : List Ty} {x : X} (h : e7 (.row ts) x) (hr : ∀ r,cA ts r→∃ a,r = e a∧ok a) : ∃ l : List α,x = .row .sl ts.length (l.map e)∧l.length≤9223372036854775807∧∀ a∈l,ok a:=by
 cases h with
 | row h1 h2 h3 =>
  rename_i xs
  obtain ⟨l,rfl,hl⟩:=GF (e:=e) (ok:=ok) (xs:=xs) fun r hr'=>hr r ⟨h2 r hr',h3 r hr'⟩
  rw [List.length_map] at h1
  exact ⟨l,rfl,h1,hl⟩
theorem Ma {tys : List Ty} {x : X} (h : lq (.agg tys) x) : ∃ l,x = .agg l∧cA tys l:=by
 cases h with
 | agg h1 h2=>exact ⟨_,rfl,h1,h2⟩
theorem Yb {a : iK} {as : List iK} {xs : List X} (h : oL (a :: as) xs) : ∃ x xs',xs = x :: xs'∧lq a x∧oL as xs':=by
 match xs,h with
 | x :: xs',⟨h1,h2⟩=>exact ⟨x,xs',rfl,h1,h2⟩
theorem Yc {xs : List X} (h : oL [] xs) : xs = []:=by
 match xs,h with
 | [],_=>rfl
structure Xb (d : eK) : Prop where
 hb : d.cells.length≤9223372036854775807
 hs : ∀ s∈d.cells,s.length≤9223372036854775807
 hb' : d.pending.length≤9223372036854775807
 hs' : ∀ s∈d.pending,s.text.length≤9223372036854775807
 hi : ∀ s∈d.pending,-9223372036854775808≤s.at_∧s.at_≤9223372036854775807
end M
namespace M
open Go
end M
namespace M
open Go
theorem WU (m : Nat) (h : m < 256) : mW [[.int .u8 (m : Int)]] = some [UInt8.ofNat m]:=by
 have:=HZ [UInt8.ofNat m]
 have e : ((UInt8.ofNat m).toNat : Int) = m:=by
  rw [UInt8.toNat_ofNat']
  omega
 simp only [List.map_cons,List.map_nil,e] at this
 exact this
theorem Ik {n : Int} (h1 : 0≤n) (h2 : n < 256) : IntKind.u8.wrap n = n:=by
 simp only [IntKind.wrap,IntKind.signed,IntKind.bits,Bool.false_and,Bool.false_eq_true,if_false]
 omega
def cM (n : Nat) : ah:=Lib.decDigits n
theorem RF : ∀ (n : Nat) (out : ah),n≠0→og n out = cM n ++ out:=by
 intro n
 induction n using Nat.strongRecOn with
 | ind n ih =>
  intro out h
  unfold og cM
  rw [dif_neg h,Lib.decDigits]
  by_cases h1 : n < 10
  ·have e : n / 10 = 0:=by omega
   have e2 : n % 10 = n:=by omega
   rw [dif_pos h1,e,e2]
   unfold og
   rw [dif_pos rfl]
   rfl
  ·rw [dif_neg h1,ih (n / 10) (by omega) _ (by omega)]
   unfold cM
   rw [List.append_assoc]
   rfl
theorem AL : cM 0 = [48]:=by unfold cM; rw [Lib.decDigits]; rfl
theorem E0 (k : Nat) : ∀ (n : Nat),n < 10 ^ (k + 1)→(cM n).length≤k + 1:=by
 induction k with
 | zero =>
  intro n h
  unfold cM
  rw [Lib.decDigits,dif_pos (by simpa using h)]
  simp
 | succ k ih =>
  intro n h
  unfold cM
  rw [Lib.decDigits]
  by_cases h1 : n < 10
  ·rw [dif_pos h1]; simp
  ·rw [dif_neg h1,List.length_append]
   have:=ih (n / 10) (by rw [Nat.pow_succ] at h; omega)
   unfold cM at this
   simp only [List.length_cons,List.length_nil]
   omega
theorem BV (n : Nat) : Lib.itoa (n : Int) = cM n:=by
 unfold Lib.itoa cM
 rw [if_neg (by omega)]
 rfl
def tg : List X→Option X
 | [.int .i64 n]=>if -9223372036854775808≤n∧n≤9223372036854775807 then some (.str ⟨(Go.Lib.itoa n).toArray⟩) else none
 | _=>none
theorem Q8 (f : FuncId) (n : Nat) (h : n < 10 ^ 18) : jj f tg f [.int .i64 (n : Int)] = some (.str ⟨(cM n).toArray⟩,[.dead]):=by
 have h1 : (n : Int)≤9223372036854775807:=by omega
 have h2:=E0 17 n (by omega)
 simp [jj,tg,BV,scalar,vf,h1]
 omega
end M
namespace M
open Go
def wS (s : ah) : Nat:=s.length
def wO {α : Type} (_ : α) : Nat:=0
def wL {α : Type} (w : α→Nat) (l : List α) : Nat:=l.length + (l.map w).sum
theorem dz {α : Type} {w : α→Nat} : ∀ {l : List α} {a : α},a∈l→w a≤wL w l
 | b :: l,a,h=>by
  rcases List.mem_cons.1 h with rfl | h
  ·simp [wL]; omega
  ·have:=dz (w:=w) h
   simp [wL] at this ⊢; omega
theorem aK {α : Type} {w : α→Nat} (l : List α) : l.length≤wL w l:=by unfold wL; omega
def ay (n : Int) (w : Nat) : Int:=if (w : Int)≤n then n - w else -1
theorem aU (n : Int) (w : Nat) : ((w : Int)≤n∧ay n w = n - w)∨(n < (w : Int)∧ay n w = -1):=by
 unfold ay
 split
 ·exact .inl ⟨by assumption,rfl⟩
 ·exact .inr ⟨by omega,rfl⟩
theorem mU (w : Nat) (n : Int) : ay n w≤n∨ay n w < 0:=by have:=aU n w; omega
theorem ld {α : Type} (w : α→Nat) : ∀ (l : List α) (n : Int),0≤n→cY (fun b n=>ay n (w b)) l n = ay n (l.map w).sum
 | [],n,h=>by simp [cY,ay,h]
 | b :: l,n,h=>by
  simp only [cY,List.map_cons,List.sum_cons]
  rcases aU n (w b) with ⟨h1,h2⟩ | ⟨h1,h2⟩
  ·rw [if_neg (by omega),ld w l _ (by omega),h2]
   rcases aU (n - w b) (l.map w).sum with ⟨h3,h4⟩ | ⟨h3,h4⟩ <;> rcases aU n (w b + (l.map w).sum) with ⟨h5,h6⟩ | ⟨h5,h6⟩ <;> omega
  ·rw [if_pos (by omega)]
   rcases aU n (w b + (l.map w).sum) with ⟨h5,h6⟩ | ⟨h5,h6⟩ <;> omega
def bI (n : Int) : Prop:=-9223372036854775808≤n∧n≤9223372036854775807
def bS (s : ah) : Prop:=s.length≤9223372036854775807
def bB (_ : Bool) : Prop:=True
def bL {α : Type} (b : α→Prop) (l : List α) : Prop:=l.length≤9223372036854775807∧∀ a∈l,b a
@[simp] def eI (n : Int) : List X:=[.int .i64 n]
@[simp] theorem Zu (m : Md) (l : List Int) : X.bp m (l.map eI) = l.map eI:=by induction l <;> simp_all [X.bp,X.cQ,X.md]
@[simp] theorem XP (l : List Int) : X.clean.aP (l.map eI) = true:=by induction l <;> simp_all [X.clean.aP,X.clean.bC,X.clean]
structure aD where
 name : ah
 value : ah
 deriving DecidableEq
@[simp] def aA (a : aD) : List X:=[.str ⟨(a.name).toArray⟩,.str ⟨(a.value).toArray⟩]
@[simp] theorem Zt (m : Md) (l : List aD) : X.bp m (l.map aA) = l.map aA:=by induction l <;> simp_all [X.bp,X.cQ,X.md]
@[simp] theorem XO (l : List aD) : X.clean.aP (l.map aA) = true:=by induction l <;> simp_all [X.clean.aP,X.clean.bC,X.clean]
def aC (a : aD) : Nat:=a.name.length + a.value.length
structure lH (x : aD) : Prop where
 Rg : bS x.name
 Rr : bS x.value
theorem Mr (a b : aD) : decide (a = b) = (decide (a.name = b.name) && decide (a.value = b.value)):=by
 cases a; cases b; simp [Bool.and_assoc]
structure bY where
 status : Int
 fields : List aD
 body : ah
 deriving DecidableEq
@[simp] def cw (m : Md) (a : bY) : List X:=[.int .i64 a.status,.row m 2 ((a.fields).map aA),.str ⟨(a.body).toArray⟩]
@[simp] theorem Zz (m m' : Md) (l : List bY) : X.bp m (l.map (cw m')) = l.map (cw m):=by induction l <;> simp_all [X.bp,X.cQ,X.md]
@[simp] theorem XU (l : List bY) : X.clean.aP (l.map (cw .own)) = true:=by induction l <;> simp_all [X.clean.aP,X.clean.bC,X.clean]
@[simp] theorem X7 (l : List bY) : X.clean.aP (l.map (cw .sl)) = true:=by induction l <;> simp_all [X.clean.aP,X.clean.bC,X.clean]
def bk (a : bY) : Nat:=wL aC a.fields + a.body.length
structure oT (x : bY) : Prop where
 Zd : bI x.status
 BZ : (bL lH) x.fields
 BX : bS x.body
theorem Mw (a b : bY) : decide (a = b) = (decide (a.status = b.status) && decide (a.fields = b.fields) && decide (a.body = b.body)):=by
 cases a; cases b; simp [Bool.and_assoc]
structure Rq where
 method : Int
 path : ah
 fields : List aD
 body : ah
 deriving DecidableEq
@[simp] def dQ (m : Md) (a : Rq) : List X:=[.int .i64 a.method,.str ⟨(a.path).toArray⟩,.row m 2 ((a.fields).map aA),.str ⟨(a.body).toArray⟩]
@[simp] theorem Zy (m m' : Md) (l : List Rq) : X.bp m (l.map (dQ m')) = l.map (dQ m):=by induction l <;> simp_all [X.bp,X.cQ,X.md]
@[simp] theorem XT (l : List Rq) : X.clean.aP (l.map (dQ .own)) = true:=by induction l <;> simp_all [X.clean.aP,X.clean.bC,X.clean]
@[simp] theorem X6 (l : List Rq) : X.clean.aP (l.map (dQ .sl)) = true:=by induction l <;> simp_all [X.clean.aP,X.clean.bC,X.clean]
def bh (a : Rq) : Nat:=a.path.length + wL aC a.fields + a.body.length
structure oS (x : Rq) : Prop where
 Za : bI x.method
 B0 : bS x.path
 BZ : (bL lH) x.fields
 BX : bS x.body
theorem Mv (a b : Rq) : decide (a = b) = (decide (a.method = b.method) && decide (a.path = b.path) && decide (a.fields = b.fields) && decide (a.body = b.body)):=by
 cases a; cases b; simp [Bool.and_assoc]
structure Ob where
 path : ah
 names : List ah
 values : List ah
 resp : bY
 t : Int
 deriving DecidableEq
@[simp] def ek (m : Md) (a : Ob) : List X:=[.str ⟨(a.path).toArray⟩,.row m 1 ((a.names).map eS),.row m 1 ((a.values).map eS),.int .i64 a.resp.status,.row m 2 ((a.resp.fields).map aA),.str ⟨(a.resp.body).toArray⟩,.int .i64 a.t]
@[simp] theorem Zw (m m' : Md) (l : List Ob) : X.bp m (l.map (ek m')) = l.map (ek m):=by induction l <;> simp_all [X.bp,X.cQ,X.md]
@[simp] theorem XR (l : List Ob) : X.clean.aP (l.map (ek .own)) = true:=by induction l <;> simp_all [X.clean.aP,X.clean.bC,X.clean]
@[simp] theorem X4 (l : List Ob) : X.clean.aP (l.map (ek .sl)) = true:=by induction l <;> simp_all [X.clean.aP,X.clean.bC,X.clean]
def bA (a : Ob) : Nat:=a.path.length + wL wS a.names + wL wS a.values + bk a.resp
structure rK (x : Ob) : Prop where
 B0 : bS x.path
 Rh : (bL bS) x.names
 Rs : (bL bS) x.values
 p7 : oT x.resp
 nX : bI x.t
theorem Mt (a b : Ob) : decide (a = b) = (decide (a.path = b.path) && decide (a.names = b.names) && decide (a.values = b.values) && decide (a.resp = b.resp) && decide (a.t = b.t)):=by
 cases a; cases b; simp [Bool.and_assoc]
structure Kp where
 obj : Ob
 at_ : Int
 seq : Int
 deriving DecidableEq
@[simp] def aZ (m : Md) (a : Kp) : List X:=[.str ⟨(a.obj.path).toArray⟩,.row m 1 ((a.obj.names).map eS),.row m 1 ((a.obj.values).map eS),.int .i64 a.obj.resp.status,.row m 2 ((a.obj.resp.fields).map aA),.str ⟨(a.obj.resp.body).toArray⟩,.int .i64 a.obj.t,.int .i64 a.at_,.int .i64 a.seq]
@[simp] theorem Zv (m m' : Md) (l : List Kp) : X.bp m (l.map (aZ m')) = l.map (aZ m):=by induction l <;> simp_all [X.bp,X.cQ,X.md]
@[simp] theorem XQ (l : List Kp) : X.clean.aP (l.map (aZ .own)) = true:=by induction l <;> simp_all [X.clean.aP,X.clean.bC,X.clean]
@[simp] theorem X3 (l : List Kp) : X.clean.aP (l.map (aZ .sl)) = true:=by induction l <;> simp_all [X.clean.aP,X.clean.bC,X.clean]
def bF (a : Kp) : Nat:=bA a.obj
structure oQ (x : Kp) : Prop where
 tj : rK x.obj
 Ra : bI x.at_
 Rm : bI x.seq
theorem Ms (a b : Kp) : decide (a = b) = (decide (a.obj = b.obj) && decide (a.at_ = b.at_) && decide (a.seq = b.seq)):=by
 cases a; cases b; simp [Bool.and_assoc]
def ck (a : Wr) : Nat:=a.text.length
structure oV (x : Wr) : Prop where
 Ra : bI x.at_
 Ro : bS x.text
theorem Mz (a b : Wr) : decide (a = b) = (decide (a.at_ = b.at_) && decide (a.text = b.text)):=by
 cases a; cases b; simp [Bool.and_assoc]
def cZ (a : eK) : Nat:=wL wS a.cells + wL ck a.pending
structure zQ (x : eK) : Prop where
 Rc : (bL bS) x.cells
 Rk : (bL oV) x.pending
theorem Mp (a b : eK) : decide (a = b) = (decide (a.cells = b.cells) && decide (a.pending = b.pending)):=by
 cases a; cases b; simp [Bool.and_assoc]
structure Bn where
 kind : Int
 a : ah
 b : ah
 t : Int
 deriving DecidableEq
@[simp] def cg (a : Bn) : List X:=[.int .i64 a.kind,.str ⟨(a.a).toArray⟩,.str ⟨(a.b).toArray⟩,.int .i64 a.t]
@[simp] theorem Zp (m : Md) (l : List Bn) : X.bp m (l.map cg) = l.map cg:=by induction l <;> simp_all [X.bp,X.cQ,X.md]
@[simp] theorem XJ (l : List Bn) : X.clean.aP (l.map cg) = true:=by induction l <;> simp_all [X.clean.aP,X.clean.bC,X.clean]
def bq (a : Bn) : Nat:=a.a.length + a.b.length
structure nk (x : Bn) : Prop where
 Gw : bI x.kind
 Gu : bS x.a
 Rb : bS x.b
 nX : bI x.t
theorem Mn (a b : Bn) : decide (a = b) = (decide (a.kind = b.kind) && decide (a.a = b.a) && decide (a.b = b.b) && decide (a.t = b.t)):=by
 cases a; cases b; simp [Bool.and_assoc]
structure Sh where
 bJ : eK
 aG : List Kp
 aX : List Bn
 next : Int
 seq : Int
 deriving DecidableEq
@[simp] def cl (m : Md) (a : Sh) : List X:=[.row m 1 ((a.bJ.cells).map eS),.row m 2 ((a.bJ.pending).map eW),.row m 9 ((a.aG).map (aZ m)),.row m 4 ((a.aX).map cg),.int .i64 a.next,.int .i64 a.seq]
@[simp] theorem ZC (m m' : Md) (l : List Sh) : X.bp m (l.map (cl m')) = l.map (cl m):=by induction l <;> simp_all [X.bp,X.cQ,X.md]
@[simp] theorem XX (l : List Sh) : X.clean.aP (l.map (cl .own)) = true:=by induction l <;> simp_all [X.clean.aP,X.clean.bC,X.clean]
@[simp] theorem X9 (l : List Sh) : X.clean.aP (l.map (cl .sl)) = true:=by induction l <;> simp_all [X.clean.aP,X.clean.bC,X.clean]
def cv (a : Sh) : Nat:=cZ a.bJ + wL bF a.aG + wL bq a.aX
structure zR (x : Sh) : Prop where
 Re : zQ x.bJ
 Ri : (bL oQ) x.aG
 Gv : (bL nk) x.aX
 Zb : bI x.next
 Rm : bI x.seq
theorem My (a b : Sh) : decide (a = b) = (decide (a.bJ = b.bJ) && decide (a.aG = b.aG) && decide (a.aX = b.aX) && decide (a.next = b.next) && decide (a.seq = b.seq)):=by
 cases a; cases b; simp [Bool.and_assoc]
structure Fl where
 q : Rq
 who : List Int
 old : Ob
 jD : Bool
 deriving DecidableEq
@[simp] def aY (m : Md) (a : Fl) : List X:=[.int .i64 a.q.method,.str ⟨(a.q.path).toArray⟩,.row m 2 ((a.q.fields).map aA),.str ⟨(a.q.body).toArray⟩,.row m 1 ((a.who).map eI),.str ⟨(a.old.path).toArray⟩,.row m 1 ((a.old.names).map eS),.row m 1 ((a.old.values).map eS),.int .i64 a.old.resp.status,.row m 2 ((a.old.resp.fields).map aA),.str ⟨(a.old.resp.body).toArray⟩,.int .i64 a.old.t,.bool a.jD]
@[simp] theorem Zs (m m' : Md) (l : List Fl) : X.bp m (l.map (aY m')) = l.map (aY m):=by induction l <;> simp_all [X.bp,X.cQ,X.md]
@[simp] theorem XM (l : List Fl) : X.clean.aP (l.map (aY .own)) = true:=by induction l <;> simp_all [X.clean.aP,X.clean.bC,X.clean]
@[simp] theorem X2 (l : List Fl) : X.clean.aP (l.map (aY .sl)) = true:=by induction l <;> simp_all [X.clean.aP,X.clean.bC,X.clean]
def bE (a : Fl) : Nat:=bh a.q + wL wO a.who + bA a.old
structure oP (x : Fl) : Prop where
 p6 : oS x.q
 Rt : (bL bI) x.who
 Rj : rK x.old
 Y8 : bB x.jD
theorem Mq (a b : Fl) : decide (a = b) = (decide (a.q = b.q) && decide (a.who = b.who) && decide (a.old = b.old) && decide (a.jD = b.jD)):=by
 cases a; cases b; simp [Bool.and_assoc]
structure Se where
 q : Rq
 resp : bY
 t : Int
 deriving DecidableEq
@[simp] def cE (m : Md) (a : Se) : List X:=[.int .i64 a.q.method,.str ⟨(a.q.path).toArray⟩,.row m 2 ((a.q.fields).map aA),.str ⟨(a.q.body).toArray⟩,.int .i64 a.resp.status,.row m 2 ((a.resp.fields).map aA),.str ⟨(a.resp.body).toArray⟩,.int .i64 a.t]
@[simp] theorem ZB (m m' : Md) (l : List Se) : X.bp m (l.map (cE m')) = l.map (cE m):=by induction l <;> simp_all [X.bp,X.cQ,X.md]
@[simp] theorem XW (l : List Se) : X.clean.aP (l.map (cE .own)) = true:=by induction l <;> simp_all [X.clean.aP,X.clean.bC,X.clean]
@[simp] theorem X8 (l : List Se) : X.clean.aP (l.map (cE .sl)) = true:=by induction l <;> simp_all [X.clean.aP,X.clean.bC,X.clean]
def bX (a : Se) : Nat:=bh a.q + bk a.resp
structure oU (x : Se) : Prop where
 p6 : oS x.q
 p7 : oT x.resp
 nX : bI x.t
theorem Mx (a b : Se) : decide (a = b) = (decide (a.q = b.q) && decide (a.resp = b.resp) && decide (a.t = b.t)):=by
 cases a; cases b; simp [Bool.and_assoc]
structure Rp where
 client : Int
 q : Rq
 resp : bY
 kind : Int
 t : Int
 obj : Ob
 aX : Int
 deriving DecidableEq
@[simp] def bK (m : Md) (a : Rp) : List X:=[.int .i64 a.client,.int .i64 a.q.method,.str ⟨(a.q.path).toArray⟩,.row m 2 ((a.q.fields).map aA),.str ⟨(a.q.body).toArray⟩,.int .i64 a.resp.status,.row m 2 ((a.resp.fields).map aA),.str ⟨(a.resp.body).toArray⟩,.int .i64 a.kind,.int .i64 a.t,.str ⟨(a.obj.path).toArray⟩,.row m 1 ((a.obj.names).map eS),.row m 1 ((a.obj.values).map eS),.int .i64 a.obj.resp.status,.row m 2 ((a.obj.resp.fields).map aA),.str ⟨(a.obj.resp.body).toArray⟩,.int .i64 a.obj.t,.int .i64 a.aX]
@[simp] theorem Zx (m m' : Md) (l : List Rp) : X.bp m (l.map (bK m')) = l.map (bK m):=by induction l <;> simp_all [X.bp,X.cQ,X.md]
@[simp] theorem XS (l : List Rp) : X.clean.aP (l.map (bK .own)) = true:=by induction l <;> simp_all [X.clean.aP,X.clean.bC,X.clean]
@[simp] theorem X5 (l : List Rp) : X.clean.aP (l.map (bK .sl)) = true:=by induction l <;> simp_all [X.clean.aP,X.clean.bC,X.clean]
def bx (a : Rp) : Nat:=bh a.q + bk a.resp + bA a.obj
structure oR (x : Rp) : Prop where
 Rd : bI x.client
 p6 : oS x.q
 p7 : oT x.resp
 Gw : bI x.kind
 nX : bI x.t
 tj : rK x.obj
 Gv : bI x.aX
theorem Mu (a b : Rp) : decide (a = b) = (decide (a.client = b.client) && decide (a.q = b.q) && decide (a.resp = b.resp) && decide (a.kind = b.kind) && decide (a.t = b.t) && decide (a.obj = b.obj) && decide (a.aX = b.aX)):=by
 cases a; cases b; simp [Bool.and_assoc]
structure Ca where
 cz : Sh
 aT : List Fl
 now : Int
 seen : List Se
 sent : List Rp
 deriving DecidableEq
@[simp] def bZ (m : Md) (a : Ca) : List X:=[.row m 1 ((a.cz.bJ.cells).map eS),.row m 2 ((a.cz.bJ.pending).map eW),.row m 9 ((a.cz.aG).map (aZ m)),.row m 4 ((a.cz.aX).map cg),.int .i64 a.cz.next,.int .i64 a.cz.seq,.row m 13 ((a.aT).map (aY m)),.int .i64 a.now,.row m 8 ((a.seen).map (cE m)),.row m 18 ((a.sent).map (bK m))]
@[simp] theorem Zq (m m' : Md) (l : List Ca) : X.bp m (l.map (bZ m')) = l.map (bZ m):=by induction l <;> simp_all [X.bp,X.cQ,X.md]
@[simp] theorem XK (l : List Ca) : X.clean.aP (l.map (bZ .own)) = true:=by induction l <;> simp_all [X.clean.aP,X.clean.bC,X.clean]
@[simp] theorem X0 (l : List Ca) : X.clean.aP (l.map (bZ .sl)) = true:=by induction l <;> simp_all [X.clean.aP,X.clean.bC,X.clean]
def bU (a : Ca) : Nat:=cv a.cz + wL bE a.aT + wL bX a.seen + wL bx a.sent
structure lG (x : Ca) : Prop where
 Rn : zR x.cz
 Rf : (bL oP) x.aT
 Zc : bI x.now
 Rl : (bL oU) x.seen
 B1 : (bL oR) x.sent
theorem Mo (a b : Ca) : decide (a = b) = (decide (a.cz = b.cz) && decide (a.aT = b.aT) && decide (a.now = b.now) && decide (a.seen = b.seen) && decide (a.sent = b.sent)):=by
 cases a; cases b; simp [Bool.and_assoc]
structure De where
 kind : Int
 client : Int
 q : Rq
 a : Int
 resp : bY
 lI : Bn
 keep : List Bool
 deriving DecidableEq
@[simp] def v7 (m : Md) (a : De) : List X:=[.int .i64 a.kind,.int .i64 a.client,.int .i64 a.q.method,.str ⟨(a.q.path).toArray⟩,.row m 2 ((a.q.fields).map aA),.str ⟨(a.q.body).toArray⟩,.int .i64 a.a,.int .i64 a.resp.status,.row m 2 ((a.resp.fields).map aA),.str ⟨(a.resp.body).toArray⟩,.int .i64 a.lI.kind,.str ⟨(a.lI.a).toArray⟩,.str ⟨(a.lI.b).toArray⟩,.int .i64 a.lI.t,.row m 1 ((a.keep).map eB)]
@[simp] theorem Zr (m m' : Md) (l : List De) : X.bp m (l.map (v7 m')) = l.map (v7 m):=by induction l <;> simp_all [X.bp,X.cQ,X.md]
@[simp] theorem XL (l : List De) : X.clean.aP (l.map (v7 .own)) = true:=by induction l <;> simp_all [X.clean.aP,X.clean.bC,X.clean]
@[simp] theorem X1 (l : List De) : X.clean.aP (l.map (v7 .sl)) = true:=by induction l <;> simp_all [X.clean.aP,X.clean.bC,X.clean]
structure Xm (x : De) : Prop where
 Gw : bI x.kind
 Rd : bI x.client
 p6 : oS x.q
 Gu : bI x.a
 p7 : oT x.resp
 Y7 : nk x.lI
 Y9 : (bL bB) x.keep
theorem EW {ts : List Ty} {l : List X} (h : cA ([.str,.str] ++ ts) l) : ∃ (a : aD) (l' : List X),l = aA a ++ l'∧lH a∧cA ts l':=by
 simp only [List.cons_append,List.nil_append] at h
 obtain ⟨y1,r1,rfl,c1,h1⟩:=h.cons
 obtain ⟨a1,rfl,b1⟩:=ig c1
 obtain ⟨y2,r2,rfl,c2,h2⟩:=h1.cons
 obtain ⟨a2,rfl,b2⟩:=ig c2
 exact ⟨⟨a1,a2⟩,r2,by simp,⟨b1,b2⟩,h2⟩
theorem AG {ts : List Ty} {l : List X} (h : cA ([.int .i64,.row [.str,.str],.str] ++ ts) l) : ∃ (a : bY) (l' : List X),l = cw .sl a ++ l'∧oT a∧cA ts l':=by
 simp only [List.cons_append,List.nil_append] at h
 obtain ⟨y1,r1,rfl,c1,h1⟩:=h.cons
 obtain ⟨a1,rfl,b1⟩:=e9 c1
 obtain ⟨y2,r2,rfl,c2,h2⟩:=h1.cons
 obtain ⟨a2,rfl,b2⟩:=ic aA lH c2 fun r hr=>by
  obtain ⟨a,l',rfl,h1,h2⟩:=EW (ts:=[]) (by simpa using hr)
  obtain rfl:=h2.nil
  exact ⟨a,by simp,h1⟩
 obtain ⟨y3,r3,rfl,c3,h3⟩:=h2.cons
 obtain ⟨a3,rfl,b3⟩:=ig c3
 exact ⟨⟨a1,a2,a3⟩,r3,by simp,⟨b1,b2,b3⟩,h3⟩
theorem AF {ts : List Ty} {l : List X} (h : cA ([.int .i64,.str,.row [.str,.str],.str] ++ ts) l) : ∃ (a : Rq) (l' : List X),l = dQ .sl a ++ l'∧oS a∧cA ts l':=by
 simp only [List.cons_append,List.nil_append] at h
 obtain ⟨y1,r1,rfl,c1,h1⟩:=h.cons
 obtain ⟨a1,rfl,b1⟩:=e9 c1
 obtain ⟨y2,r2,rfl,c2,h2⟩:=h1.cons
 obtain ⟨a2,rfl,b2⟩:=ig c2
 obtain ⟨y3,r3,rfl,c3,h3⟩:=h2.cons
 obtain ⟨a3,rfl,b3⟩:=ic aA lH c3 fun r hr=>by
  obtain ⟨a,l',rfl,h1,h2⟩:=EW (ts:=[]) (by simpa using hr)
  obtain rfl:=h2.nil
  exact ⟨a,by simp,h1⟩
 obtain ⟨y4,r4,rfl,c4,h4⟩:=h3.cons
 obtain ⟨a4,rfl,b4⟩:=ig c4
 exact ⟨⟨a1,a2,a3,a4⟩,r4,by simp,⟨b1,b2,b3,b4⟩,h4⟩
theorem AE {ts : List Ty} {l : List X} (h : cA ([.str,.row [.str],.row [.str],.int .i64,.row [.str,.str],.str,.int .i64] ++ ts) l) : ∃ (a : Ob) (l' : List X),l = ek .sl a ++ l'∧rK a∧cA ts l':=by
 simp only [List.cons_append,List.nil_append] at h
 obtain ⟨y1,r1,rfl,c1,h1⟩:=h.cons
 obtain ⟨a1,rfl,b1⟩:=ig c1
 obtain ⟨y2,r2,rfl,c2,h2⟩:=h1.cons
 obtain ⟨a2,rfl,b2⟩:=ic eS bS c2 fun r hr=>by
  obtain ⟨x,r',rfl,h1,h2⟩:=hr.cons
  obtain rfl:=h2.nil
  obtain ⟨s,rfl,hs⟩:=ig h1
  exact ⟨s,rfl,hs⟩
 obtain ⟨y3,r3,rfl,c3,h3⟩:=h2.cons
 obtain ⟨a3,rfl,b3⟩:=ic eS bS c3 fun r hr=>by
  obtain ⟨x,r',rfl,h1,h2⟩:=hr.cons
  obtain rfl:=h2.nil
  obtain ⟨s,rfl,hs⟩:=ig h1
  exact ⟨s,rfl,hs⟩
 obtain ⟨a4,r4,rfl,b4,h4⟩:=AG (ts:=_) h3
 obtain ⟨y5,r5,rfl,c5,h5⟩:=h4.cons
 obtain ⟨a5,rfl,b5⟩:=e9 c5
 exact ⟨⟨a1,a2,a3,a4,a5⟩,r5,by simp,⟨b1,b2,b3,b4,b5⟩,h5⟩
theorem Mg {ts : List Ty} {l : List X} (h : cA ([.str,.row [.str],.row [.str],.int .i64,.row [.str,.str],.str,.int .i64,.int .i64,.int .i64] ++ ts) l) : ∃ (a : Kp) (l' : List X),l = aZ .sl a ++ l'∧oQ a∧cA ts l':=by
 simp only [List.cons_append,List.nil_append] at h
 obtain ⟨a1,r1,rfl,b1,h1⟩:=AE (ts:=_) h
 obtain ⟨y2,r2,rfl,c2,h2⟩:=h1.cons
 obtain ⟨a2,rfl,b2⟩:=e9 c2
 obtain ⟨y3,r3,rfl,c3,h3⟩:=h2.cons
 obtain ⟨a3,rfl,b3⟩:=e9 c3
 exact ⟨⟨a1,a2,a3⟩,r3,by simp,⟨b1,b2,b3⟩,h3⟩
theorem Mk {ts : List Ty} {l : List X} (h : cA ([.int .i64,.str] ++ ts) l) : ∃ (a : Wr) (l' : List X),l = eW a ++ l'∧oV a∧cA ts l':=by
 simp only [List.cons_append,List.nil_append] at h
 obtain ⟨y1,r1,rfl,c1,h1⟩:=h.cons
 obtain ⟨a1,rfl,b1⟩:=e9 c1
 obtain ⟨y2,r2,rfl,c2,h2⟩:=h1.cons
 obtain ⟨a2,rfl,b2⟩:=ig c2
 exact ⟨⟨a1,a2⟩,r2,by simp,⟨b1,b2⟩,h2⟩
theorem Me {ts : List Ty} {l : List X} (h : cA ([.row [.str],.row [.int .i64,.str]] ++ ts) l) : ∃ (a : eK) (l' : List X),l = gm .sl a ++ l'∧zQ a∧cA ts l':=by
 simp only [List.cons_append,List.nil_append] at h
 obtain ⟨y1,r1,rfl,c1,h1⟩:=h.cons
 obtain ⟨a1,rfl,b1⟩:=ic eS bS c1 fun r hr=>by
  obtain ⟨x,r',rfl,h1,h2⟩:=hr.cons
  obtain rfl:=h2.nil
  obtain ⟨s,rfl,hs⟩:=ig h1
  exact ⟨s,rfl,hs⟩
 obtain ⟨y2,r2,rfl,c2,h2⟩:=h1.cons
 obtain ⟨a2,rfl,b2⟩:=ic eW oV c2 fun r hr=>by
  obtain ⟨a,l',rfl,h1,h2⟩:=Mk (ts:=[]) (by simpa using hr)
  obtain rfl:=h2.nil
  exact ⟨a,by simp,h1⟩
 exact ⟨⟨a1,a2⟩,r2,by simp,⟨b1,b2⟩,h2⟩
theorem Mb {ts : List Ty} {l : List X} (h : cA ([.int .i64,.str,.str,.int .i64] ++ ts) l) : ∃ (a : Bn) (l' : List X),l = cg a ++ l'∧nk a∧cA ts l':=by
 simp only [List.cons_append,List.nil_append] at h
 obtain ⟨y1,r1,rfl,c1,h1⟩:=h.cons
 obtain ⟨a1,rfl,b1⟩:=e9 c1
 obtain ⟨y2,r2,rfl,c2,h2⟩:=h1.cons
 obtain ⟨a2,rfl,b2⟩:=ig c2
 obtain ⟨y3,r3,rfl,c3,h3⟩:=h2.cons
 obtain ⟨a3,rfl,b3⟩:=ig c3
 obtain ⟨y4,r4,rfl,c4,h4⟩:=h3.cons
 obtain ⟨a4,rfl,b4⟩:=e9 c4
 exact ⟨⟨a1,a2,a3,a4⟩,r4,by simp,⟨b1,b2,b3,b4⟩,h4⟩
theorem Mj {ts : List Ty} {l : List X} (h : cA ([.row [.str],.row [.int .i64,.str],.row [.str,.row [.str],.row [.str],.int .i64,.row [.str,.str],.str,.int .i64,.int .i64,.int .i64],.row [.int .i64,.str,.str,.int .i64],.int .i64,.int .i64] ++ ts) l) : ∃ (a : Sh) (l' : List X),l = cl .sl a ++ l'∧zR a∧cA ts l':=by
 simp only [List.cons_append,List.nil_append] at h
 obtain ⟨a1,r1,rfl,b1,h1⟩:=Me (ts:=_) h
 obtain ⟨y2,r2,rfl,c2,h2⟩:=h1.cons
 obtain ⟨a2,rfl,b2⟩:=ic (aZ .sl) oQ c2 fun r hr=>by
  obtain ⟨a,l',rfl,h1,h2⟩:=Mg (ts:=[]) (by simpa using hr)
  obtain rfl:=h2.nil
  exact ⟨a,by simp,h1⟩
 obtain ⟨y3,r3,rfl,c3,h3⟩:=h2.cons
 obtain ⟨a3,rfl,b3⟩:=ic cg nk c3 fun r hr=>by
  obtain ⟨a,l',rfl,h1,h2⟩:=Mb (ts:=[]) (by simpa using hr)
  obtain rfl:=h2.nil
  exact ⟨a,by simp,h1⟩
 obtain ⟨y4,r4,rfl,c4,h4⟩:=h3.cons
 obtain ⟨a4,rfl,b4⟩:=e9 c4
 obtain ⟨y5,r5,rfl,c5,h5⟩:=h4.cons
 obtain ⟨a5,rfl,b5⟩:=e9 c5
 exact ⟨⟨a1,a2,a3,a4,a5⟩,r5,by simp,⟨b1,b2,b3,b4,b5⟩,h5⟩
theorem Mf {ts : List Ty} {l : List X} (h : cA ([.int .i64,.str,.row [.str,.str],.str,.row [.int .i64],.str,.row [.str],.row [.str],.int .i64,.row [.str,.str],.str,.int .i64,.bool] ++ ts) l) : ∃ (a : Fl) (l' : List X),l = aY .sl a ++ l'∧oP a∧cA ts l':=by
 simp only [List.cons_append,List.nil_append] at h
 obtain ⟨a1,r1,rfl,b1,h1⟩:=AF (ts:=_) h
 obtain ⟨y2,r2,rfl,c2,h2⟩:=h1.cons
 obtain ⟨a2,rfl,b2⟩:=ic eI bI c2 fun r hr=>by
  obtain ⟨x,r',rfl,h1,h2⟩:=hr.cons
  obtain rfl:=h2.nil
  obtain ⟨s,rfl,hs⟩:=e9 h1
  exact ⟨s,rfl,hs⟩
 obtain ⟨a3,r3,rfl,b3,h3⟩:=AE (ts:=_) h2
 obtain ⟨y4,r4,rfl,c4,h4⟩:=h3.cons
 obtain ⟨a4,rfl⟩:=Ml c4
 exact ⟨⟨a1,a2,a3,a4⟩,r4,by simp,⟨b1,b2,b3,trivial⟩,h4⟩
theorem Mi {ts : List Ty} {l : List X} (h : cA ([.int .i64,.str,.row [.str,.str],.str,.int .i64,.row [.str,.str],.str,.int .i64] ++ ts) l) : ∃ (a : Se) (l' : List X),l = cE .sl a ++ l'∧oU a∧cA ts l':=by
 simp only [List.cons_append,List.nil_append] at h
 obtain ⟨a1,r1,rfl,b1,h1⟩:=AF (ts:=_) h
 obtain ⟨a2,r2,rfl,b2,h2⟩:=AG (ts:=_) h1
 obtain ⟨y3,r3,rfl,c3,h3⟩:=h2.cons
 obtain ⟨a3,rfl,b3⟩:=e9 c3
 exact ⟨⟨a1,a2,a3⟩,r3,by simp,⟨b1,b2,b3⟩,h3⟩
theorem Mh {ts : List Ty} {l : List X} (h : cA ([.int .i64,.int .i64,.str,.row [.str,.str],.str,.int .i64,.row [.str,.str],.str,.int .i64,.int .i64,.str,.row [.str],.row [.str],.int .i64,.row [.str,.str],.str,.int .i64,.int .i64] ++ ts) l) : ∃ (a : Rp) (l' : List X),l = bK .sl a ++ l'∧oR a∧cA ts l':=by
 simp only [List.cons_append,List.nil_append] at h
 obtain ⟨y1,r1,rfl,c1,h1⟩:=h.cons
 obtain ⟨a1,rfl,b1⟩:=e9 c1
 obtain ⟨a2,r2,rfl,b2,h2⟩:=AF (ts:=_) h1
 obtain ⟨a3,r3,rfl,b3,h3⟩:=AG (ts:=_) h2
 obtain ⟨y4,r4,rfl,c4,h4⟩:=h3.cons
 obtain ⟨a4,rfl,b4⟩:=e9 c4
 obtain ⟨y5,r5,rfl,c5,h5⟩:=h4.cons
 obtain ⟨a5,rfl,b5⟩:=e9 c5
 obtain ⟨a6,r6,rfl,b6,h6⟩:=AE (ts:=_) h5
 obtain ⟨y7,r7,rfl,c7,h7⟩:=h6.cons
 obtain ⟨a7,rfl,b7⟩:=e9 c7
 exact ⟨⟨a1,a2,a3,a4,a5,a6,a7⟩,r7,by simp,⟨b1,b2,b3,b4,b5,b6,b7⟩,h7⟩
def TN : List Ty:=[.row [.str],.row [.int .i64,.str],.row [.str,.row [.str],.row [.str],.int .i64,.row [.str,.str],.str,.int .i64,.int .i64,.int .i64],.row [.int .i64,.str,.str,.int .i64],.int .i64,.int .i64,.row [.int .i64,.str,.row [.str,.str],.str,.row [.int .i64],.str,.row [.str],.row [.str],.int .i64,.row [.str,.str],.str,.int .i64,.bool],.int .i64,.row [.int .i64,.str,.row [.str,.str],.str,.int .i64,.row [.str,.str],.str,.int .i64],.row [.int .i64,.int .i64,.str,.row [.str,.str],.str,.int .i64,.row [.str,.str],.str,.int .i64,.int .i64,.str,.row [.str],.row [.str],.int .i64,.row [.str,.str],.str,.int .i64,.int .i64]]
theorem Mc {ts : List Ty} {l : List X} (h : cA ([.row [.str],.row [.int .i64,.str],.row [.str,.row [.str],.row [.str],.int .i64,.row [.str,.str],.str,.int .i64,.int .i64,.int .i64],.row [.int .i64,.str,.str,.int .i64],.int .i64,.int .i64,.row [.int .i64,.str,.row [.str,.str],.str,.row [.int .i64],.str,.row [.str],.row [.str],.int .i64,.row [.str,.str],.str,.int .i64,.bool],.int .i64,.row [.int .i64,.str,.row [.str,.str],.str,.int .i64,.row [.str,.str],.str,.int .i64],.row [.int .i64,.int .i64,.str,.row [.str,.str],.str,.int .i64,.row [.str,.str],.str,.int .i64,.int .i64,.str,.row [.str],.row [.str],.int .i64,.row [.str,.str],.str,.int .i64,.int .i64]] ++ ts) l) : ∃ (a : Ca) (l' : List X),l = bZ .sl a ++ l'∧lG a∧cA ts l':=by
 simp only [List.cons_append,List.nil_append] at h
 obtain ⟨a1,r1,rfl,b1,h1⟩:=Mj (ts:=_) h
 obtain ⟨y2,r2,rfl,c2,h2⟩:=h1.cons
 obtain ⟨a2,rfl,b2⟩:=ic (aY .sl) oP c2 fun r hr=>by
  obtain ⟨a,l',rfl,h1,h2⟩:=Mf (ts:=[]) (by simpa using hr)
  obtain rfl:=h2.nil
  exact ⟨a,by simp,h1⟩
 obtain ⟨y3,r3,rfl,c3,h3⟩:=h2.cons
 obtain ⟨a3,rfl,b3⟩:=e9 c3
 obtain ⟨y4,r4,rfl,c4,h4⟩:=h3.cons
 obtain ⟨a4,rfl,b4⟩:=ic (cE .sl) oU c4 fun r hr=>by
  obtain ⟨a,l',rfl,h1,h2⟩:=Mi (ts:=[]) (by simpa using hr)
  obtain rfl:=h2.nil
  exact ⟨a,by simp,h1⟩
 obtain ⟨y5,r5,rfl,c5,h5⟩:=h4.cons
 obtain ⟨a5,rfl,b5⟩:=ic (bK .sl) oR c5 fun r hr=>by
  obtain ⟨a,l',rfl,h1,h2⟩:=Mh (ts:=[]) (by simpa using hr)
  obtain rfl:=h2.nil
  exact ⟨a,by simp,h1⟩
 exact ⟨⟨a1,a2,a3,a4,a5⟩,r5,by simp,⟨b1,b2,b3,b4,b5⟩,h5⟩
theorem Yd {x : X} (h : lq (.agg TN) x) : ∃ a,x = .agg (bZ .sl a)∧lG a:=by
 obtain ⟨l,rfl,hl⟩:=Ma h
 obtain ⟨a,l',rfl,h1,h2⟩:=Mc (ts:=[]) (l:=l) (by rw [List.append_nil]; exact hl)
 obtain rfl:=h2.nil
 exact ⟨a,by simp,h1⟩
end M
namespace M
open Go
def cF {β : Type} (p : β→Bool) : Nat→List β→Option (Nat×β)
 | _,[]=>none
 | i,b :: l=>if p b = true then some (i,b) else cF p (i + 1) l
theorem pF {β : Type} {p : β→Bool} : ∀ {l : List β} {k i : Nat} {b : β},cF p k l = some (i,b)→k≤i∧l[i - k]? = some b∧p b = true
 | b' :: l,k,i,b,h=>by
  unfold cF at h
  split at h
  ·rename_i hp
   cases h
   exact ⟨Nat.le_refl _,by simp,hp⟩
  ·obtain ⟨h1,h2,h3⟩:=pF h
   refine ⟨by omega,?_,h3⟩
   rw [show i - k = (i - (k + 1)) + 1 by omega,List.getElem?_cons_succ]
   exact h2
theorem A0 {β : Type} {p : β→Bool} : ∀ {l : List β} {k : Nat},cF p k l = none↔∀ b∈l,¬ p b = true
 | [],k=>by simp [cF]
 | b' :: l,k=>by
  unfold cF
  by_cases hp : p b' = true
  ·simp [hp]
  ·rw [if_neg hp,A0]
   simp [hp]
theorem oc {xt : Nat} {β : Type} {f : ag→bH} (l : List β) (st : Nat→ag) (p : β→Bool) (R : Nat→β→ag) (E : ag)
  (h : ∀ i b,l[i]? = some b→i < l.length→f (st i) = if p b = true then some (.ret,R i b) else some (.normal,st (i + 1)))
  (hend : f (st l.length) = some (.exit xt,E)) :
  aF f (st 0) = (cF p 0 l).elim (some (.exit xt,E)) fun x=>some (.ret,R x.1 x.2):=by
 suffices H : ∀ (r : List β) (i : Nat),l.drop i = r→i≤l.length→aF f (st i) = (cF p i r).elim (some (.exit xt,E)) fun x=>some (.ret,R x.1 x.2) from H l 0 rfl (Nat.zero_le _)
 intro r
 induction r with
 | nil =>
  intro i hr hi
  have : i = l.length:=by
   have:=congrArg List.length hr
   simp at this
   omega
  subst this
  rw [gS,hend]
  rfl
 | cons b r ih =>
  intro i hr hi
  have hb : l[i]? = some b:=by
   have:=congrArg (fun t : List β=>t[0]?) hr
   simpa using this
  have hlt : i < l.length:=(List.getElem?_eq_some_iff.1 hb).1
  have hd : l.drop (i + 1) = r:=by
   have:=congrArg List.tail hr
   simpa using this
  rw [gS,h i b hb hlt]
  unfold cF
  by_cases hp : p b = true
  ·simp [hp,lv]
  ·simp only [hp]
   exact ih (i + 1) hd hlt
theorem od {xt : Nat} {β γ : Type} {f : ag→bH} (l : List β) (φ : β→List γ) (st : Nat→List γ→ag) (E : List γ→ag)
  (h : ∀ i b out,l[i]? = some b→i < l.length→out = (l.take i).flatMap φ→f (st i out) = some (.normal,st (i + 1) (out ++ φ b)))
  (hend : ∀ out,out = l.flatMap φ→f (st l.length out) = some (.exit xt,E out)) :
  aF f (st 0 []) = some (.exit xt,E (l.flatMap φ)):=by
 suffices H : ∀ (k i : Nat),i + k = l.length→aF f (st i ((l.take i).flatMap φ)) = some (.exit xt,E (l.flatMap φ)) from H l.length 0 (by omega)
 intro k
 induction k with
 | zero =>
  intro i hi
  obtain rfl : i = l.length:=by omega
  rw [List.take_length,gS,hend _ rfl]
  rfl
 | succ k ih =>
  intro i hi
  have hlt : i < l.length:=by omega
  rw [gS,h i l[i] _ (List.getElem?_eq_getElem hlt) hlt rfl]
  have : (l.take i).flatMap φ ++ φ l[i] = (l.take (i + 1)).flatMap φ:=by
   rw [List.take_succ_eq_append_getElem hlt,List.flatMap_append]
   simp
  simp only [this]
  exact ih (i + 1) (by omega)
theorem rV {β γ : Type} (g : β→γ) (l : List β) : l.flatMap (fun b=>[g b]) = l.map g:=by induction l <;> simp_all
theorem wv {β γ : Type} (g : β→γ) (l : List β) (i : Nat) (h : i≤l.length) : ((l.take i).flatMap (fun b=>[g b])).length = i:=by rw [rV]; simp; omega
def fZ {β : Type} (p : β→Bool) (l : List β) : Int:=foldI (fun i g b=>if p b = true then (i : Int) else g) 0 l (-1)
theorem FB {β γ : Type} (go : Nat→γ→β→γ) : ∀ (l : List β) (k : Nat) (b : β) (g : γ),foldI go k (l ++ [b]) g = go (k + l.length) (foldI go k l g) b
 | [],k,b,g=>rfl
 | a :: l,k,b,g=>by
  show foldI go (k + 1) (l ++ [b]) (go k g a) = go (k + (l.length + 1)) (foldI go (k + 1) l (go k g a)) b
  rw [FB go l (k + 1) b,show k + 1 + l.length = k + (l.length + 1) by omega]
theorem GB {β : Type} (p : β→Bool) (l : List β) (k : Nat) (h : k < l.length) : fZ p (l.take (k + 1)) = if p l[k] = true then (k : Int) else fZ p (l.take k):=by
 unfold fZ
 rw [List.take_succ_eq_append_getElem h,FB,List.length_take,Nat.min_eq_left (by omega),Nat.zero_add]
theorem Rz {xt : Nat} {β : Type} {f : ag→bH} (l : List β) (st : Int→ag) (p : β→Bool) (R : Int→ag) (E : ag)
  (h : ∀ (i : Nat) b,l[i]? = some b→i < l.length→f (st i) = if p b = true then some (.ret,R i) else some (.normal,st (i - 1)))
  (hend : f (st (-1)) = some (.exit xt,E)) :
  aF f (st (l.length - 1)) = if fZ p l < 0 then some (.exit xt,E) else some (.ret,R (fZ p l)):=by
 suffices H : ∀ k,k≤l.length→aF f (st ((k : Int) - 1)) = if fZ p (l.take k) < 0 then some (.exit xt,E) else some (.ret,R (fZ p (l.take k))) by
  have:=H l.length (Nat.le_refl _)
  rwa [List.take_length] at this
 intro k
 induction k with
 | zero =>
  intro _
  rw [gS]
  have : fZ p (l.take 0) = -1:=by simp [fZ,foldI]
  rw [this,show (((0 : Nat) : Int) - 1) = -1 by omega,hend]
  rfl
 | succ k ih =>
  intro hk
  rw [gS,show (((k + 1 : Nat) : Int) - 1) = (k : Int) by omega,h k l[k] (List.getElem?_eq_getElem (by omega)) (by omega),GB p l k (by omega)]
  by_cases hp : p l[k] = true
  ·simp only [hp,if_true]
   rw [if_neg (by omega)]
   rfl
  ·simp only [hp]
   exact ih (by omega)
theorem Rx {β : Type} {p : β→Bool} {l : List β} (h : fZ p l < 0) : fZ p l = -1:=by
 have H : ∀ k,k≤l.length→fZ p (l.take k) = -1∨0≤fZ p (l.take k):=by
  intro k
  induction k with
  | zero=>intro _; exact .inl (by simp [fZ,foldI])
  | succ k ih =>
   intro hk
   rw [GB p l k (by omega)]
   split
   ·exact .inr (by omega)
   ·exact ih (by omega)
 have:=H l.length (Nat.le_refl _)
 rw [List.take_length] at this
 omega
end M
namespace M
open Go
def jd (b : UInt8) : UInt8:=if 65≤b.toNat∧b.toNat≤90 then b + 32 else b
def bw (s : ah) : ah:=s.map jd
def oJ (b : UInt8) : Bool:=decide ((97≤b.toNat∧b.toNat≤122)∨(48≤b.toNat∧b.toNat≤57)∨b.toNat = 45)
def eH (s : ah) : Bool:=aI oJ s && decide (1≤(s.length : Int)∧(s.length : Int)≤20)
def gd (lo : Nat) (b : UInt8) : Bool:=decide (lo≤b.toNat∧b.toNat≤126)
def dL (s : ah) : ah:=Lib.trimB s 32
def gF (s : ah) : Bool:=aI (gd 32) s && decide (1≤(s.length : Int)∧(s.length : Int)≤60) && decide (dL s = s)
def cJ (n : Int) : ah:=if 0≤n∧n≤1000000 then cM n.toNat else []
def eM (b : UInt8) : Bool:=decide (48≤b.toNat∧b.toNat≤57)
def gE (s : ah) : Nat:=s.foldl (fun x b=>10 * x + b.toNat - 48) 0
def cr (s : ah) : Option Nat:=if gE s≤1000000∧cM (gE s) = s then some (gE s) else none
def gb (s : ah) : Bool:=aI (gd 33) s && decide (1≤(s.length : Int)∧(s.length : Int)≤60) && decide (s[0]?.map (fun b : UInt8=>(b.toNat : Int)) = some 47)
theorem AN {α : Type} (p : α→Bool) : ∀ (a b : List α),(∃ x∈a,p x = false)→(a ++ b).dropWhile p = a.dropWhile p ++ b
 | [],b,h=>by simp at h
 | x :: a,b,h=>by
  simp only [List.cons_append,List.dropWhile_cons]
  by_cases hx : p x = true
  ·simp only [hx,if_true]
   refine AN p a b ?_
   obtain ⟨y,hy,hp⟩:=h
   rcases List.mem_cons.1 hy with rfl | hy
   ·rw [hx] at hp; cases hp
   ·exact ⟨y,hy,hp⟩
  ·simp [hx]
theorem AM {α : Type} (p : α→Bool) : ∀ (a : List α),(∀ x∈a,p x = true)→a.dropWhile p = []
 | [],_=>rfl
 | x :: a,h=>by
  rw [List.dropWhile_cons,if_pos (h x (List.mem_cons_self ..))]
  exact AM p a fun y hy=>h y (List.mem_cons_of_mem _ hy)
theorem AO {α : Type} (p : α→Bool) : ∀ {a : List α} {x : α},x∈a→p x = false→x∈a.dropWhile p
 | y :: a,x,h,hp=>by
  rw [List.dropWhile_cons]
  by_cases hy : p y = true
  ·rw [if_pos hy]
   rcases List.mem_cons.1 h with rfl | h
   ·rw [hy] at hp; cases hp
   ·exact AO p h hp
  ·rw [if_neg hy]; exact h
theorem E3 {α : Type} (p : α→Bool) (l : List α) : ∃ a,l = a ++ l.dropWhile p∧∀ x∈a,p x = true:=by
 refine ⟨l.takeWhile p,(List.takeWhile_append_dropWhile).symm,fun x hx=>?_⟩
 have:=List.all_takeWhile (l:=l) (p:=p)
 exact List.all_eq_true.1 this x hx
theorem WS (p : UInt8→Bool) (l : List UInt8) : (l.reverse.dropWhile p).reverse.dropWhile p = ((l.dropWhile p).reverse.dropWhile p).reverse:=by
 by_cases h : ∃ x∈l,p x = false
 ·obtain ⟨x,hx,hp⟩:=h
  obtain ⟨a,e1,h1⟩:=E3 p l
  have hm : x∈l.dropWhile p:=AO p hx hp
  have e2 : l.reverse.dropWhile p = (l.dropWhile p).reverse.dropWhile p ++ a.reverse:=by
   conv=>lhs; rw [e1,List.reverse_append]
   exact AN p _ _ ⟨x,by simpa using hm,hp⟩
  rw [e2,List.reverse_append,List.reverse_reverse]
  obtain ⟨b,e3,h3⟩:=E3 p (l.dropWhile p).reverse
  generalize hd : (l.dropWhile p).reverse.dropWhile p = d at e3 ⊢
  have Qm : ∃ y∈d,p y = false:=⟨x,by rw [← hd]; exact AO p (by simpa using hm) hp,hp⟩
  have e4 : l.dropWhile p = d.reverse ++ b.reverse:=by
   have:=congrArg List.reverse e3
   simpa using this
  have e5 : (a ++ d.reverse).dropWhile p = d.reverse.dropWhile p:=by
   clear e1 e2 e3 hm
   induction a with
   | nil=>rfl
   | cons y a ih =>
    rw [List.cons_append,List.dropWhile_cons,if_pos (h1 y (List.mem_cons_self ..))]
    exact ih fun z hz=>h1 z (List.mem_cons_of_mem _ hz)
  rw [e5]
  have e6 : (l.dropWhile p).dropWhile p = l.dropWhile p:=by
   have : ∀ l : List UInt8,(l.dropWhile p).dropWhile p = l.dropWhile p:=by
    intro l
    induction l with
    | nil=>rfl
    | cons y l ih =>
     rw [List.dropWhile_cons]
     by_cases hy : p y = true
     ·rw [if_pos hy]; exact ih
     ·rw [if_neg hy,List.dropWhile_cons,if_neg hy]
   exact this l
  rw [e4] at e6
  rw [AN p d.reverse b.reverse (by obtain ⟨y,hy,hp⟩:=Qm; exact ⟨y,by simpa using hy,hp⟩)] at e6
  exact List.append_cancel_right e6
 ·have h1 : ∀ x∈l,p x = true:=fun x hx=>by
   cases hp : p x with
   | true=>rfl
   | false=>exact absurd ⟨x,hx,hp⟩ h
  rw [AM p l h1,AM p l.reverse (fun x hx=>h1 x (by simpa using hx))]
  rfl
theorem WR (s : ah) : dL s = Lib.trimRightB (Lib.trimLeftB s 32) 32:=WS _ s
theorem HU (s : ah) : (dL s).length≤s.length:=by
 unfold dL Lib.trimB Lib.trimLeftB Lib.trimRightB
 have h1:=(List.dropWhile_sublist (l:=(List.dropWhile (fun x=>x == 32) s.reverse).reverse) (fun x=>x == (32 : UInt8))).length_le
 have h2:=(List.dropWhile_sublist (l:=s.reverse) (fun x=>x == (32 : UInt8))).length_le
 simp only [List.length_reverse] at h1 h2
 omega
theorem PT {α β : Type} (f : β→α→β) (l : List α) (a : α) (b : β) : (l ++ [a]).foldl f b = f (l.foldl f b) a:=by simp
theorem AH (n : Nat) : cM n≠[]:=by
 intro h
 have : (cM n).length = Lib.nDigits n:=Lib.decDigits_length n
 rw [h] at this
 have h2:=Lib.nDigits_pos n
 rw [← this] at h2
 simp at h2
theorem AK (n : Nat) (h : ¬ n < 10) : cM n = cM (n / 10) ++ [UInt8.ofNat (48 + n % 10)]:=by
 unfold cM
 rw [Lib.decDigits,dif_neg h]
theorem AJ (n : Nat) (h : n < 10) : cM n = [UInt8.ofNat (48 + n)]:=by
 unfold cM
 rw [Lib.decDigits,dif_pos h]
theorem o9 (k : Nat) (h : k < 10) : (UInt8.ofNat (48 + k)).toNat = 48 + k:=by
 rw [UInt8.toNat_ofNat']
 omega
theorem H8 : ∀ n : Nat,gE (cM n) = n:=by
 intro n
 induction n using Nat.strongRecOn with
 | ind n ih =>
  by_cases h : n < 10
  ·rw [AJ n h]
   simp only [gE,List.foldl_cons,List.foldl_nil,o9 n h]
   omega
  ·rw [AK n h]
   have:=ih (n / 10) (by omega)
   unfold gE at this ⊢
   rw [PT,this,o9 _ (by omega)]
   omega
theorem EZ : ∀ n : Nat,aI eM (cM n) = true:=by
 intro n
 induction n using Nat.strongRecOn with
 | ind n ih =>
  rw [lE]
  by_cases h : n < 10
  ·rw [AJ n h]
   intro x hx
   rw [List.mem_singleton.1 hx]
   unfold eM
   rw [o9 n h]
   simp; omega
  ·rw [AK n h]
   intro x hx
   rcases List.mem_append.1 hx with hx | hx
   ·exact lE.1 (ih _ (by omega)) x hx
   ·rw [List.mem_singleton.1 hx]
    unfold eM
    rw [o9 _ (by omega)]
    simp; omega
theorem qE {s : ah} {n : Nat} : cr s = some n↔n≤1000000∧cM n = s:=by
 unfold cr
 constructor
 ·intro h
  split at h
  ·rename_i hc
   cases h
   exact hc
  ·cases h
 ·rintro ⟨h1,rfl⟩
  rw [H8,if_pos ⟨h1,rfl⟩]
theorem E1 (n : Nat) (h : n≤1000000) : (cM n).length≤7:=E0 6 n (by omega)
theorem R9 (n : Nat) (h : n≤1000000) : cJ (n : Int) = cM n:=by
 unfold cJ
 rw [if_pos (by omega)]
 rfl
theorem R7 (s : ah) (h : s.length≤7) : cr s = if s≠[]∧aI eM s = true∧cJ (gE s) = s then some (gE s) else none:=by
 cases hr : cr s with
 | some n =>
  obtain ⟨h1,rfl⟩:=qE.1 hr
  rw [H8,if_pos ⟨AH n,EZ n,R9 n h1⟩]
 | none =>
  rw [if_neg]
  rintro ⟨h1,h2,h3⟩
  have : cr s = some (gE s):=by
   refine qE.2 ?_
   unfold cJ at h3
   split at h3
   ·rename_i hc
    exact ⟨by omega,h3⟩
   ·exact absurd h3.symm h1
  rw [this] at hr
  cases hr
theorem S2 : ∀ (n acc : Nat) (l : List UInt8),acc * 10 ^ Lib.nDigits n + n < 10000000000→Lib.parseUint10 acc (cM n ++ l) = Lib.parseUint10 (acc * 10 ^ Lib.nDigits n + n) l:=by
 intro n
 induction n using Nat.strongRecOn with
 | ind n ih =>
  intro acc l hn
  by_cases h : n < 10
  ·rw [AJ n h]
   simp only [List.cons_append,List.nil_append,Lib.parseUint10,o9 n h]
   rw [Lib.nDigits_small h] at hn ⊢
   rw [if_pos (by omega),if_neg (by omega),if_neg (by omega)]
   congr 1
   omega
  ·rw [AK n h,List.append_assoc]
   have e:=Lib.nDigits_big h
   rw [e,Nat.pow_succ] at hn ⊢
   have hm : acc * (10 ^ Lib.nDigits (n / 10) * 10) = acc * 10 ^ Lib.nDigits (n / 10) * 10:=by rw [Nat.mul_assoc]
   rw [hm] at hn ⊢
   rw [ih (n / 10) (by omega) acc _ (by omega)]
   have hd:=o9 (n % 10) (by omega)
   simp only [List.cons_append,List.nil_append,Lib.parseUint10,hd]
   rw [if_pos (by omega),if_neg (by omega),if_neg (by omega)]
   congr 1
   omega
theorem D0 (n : Nat) (h : n≤1000000) : Lib.atoiAll (cM n) = .ok (n : Int):=by
 cases hd : cM n with
 | nil=>exact absurd hd (AH n)
 | cons c r =>
  have hc:=lE.1 (EZ n) c (by rw [hd]; exact List.mem_cons_self ..)
  simp only [eM,decide_eq_true_eq] at hc
  rw [Lib.atoiAll_plain c r (by omega) (by omega),← hd]
  unfold Lib.parseMag
  rw [if_neg (AH n)]
  have:=S2 n 0 [] (by omega)
  rw [List.append_nil] at this
  rw [this]
  simp only [Lib.parseUint10,Lib.signless]
  rw [if_neg (by omega)]
  simp
theorem R6 (s : ah) (n : Int) (h : Lib.atoiAll s = .ok n) : (if 0≤n∧n≤1000000∧Lib.itoa n = s then some n.toNat else none) = cr s:=by
 split
 ·rename_i hc
  symm
  refine qE.2 ⟨by omega,?_⟩
  rw [← BV,← hc.2.2]
  congr 1
  omega
 ·rename_i hc
  cases hr : cr s with
  | none=>rfl
  | some m =>
   obtain ⟨h1,rfl⟩:=qE.1 hr
   rw [D0 m h1] at h
   obtain rfl : (m : Int) = n:=by injection h
   exact absurd ⟨by omega,by omega,BV m⟩ hc
theorem R8 (s : ah) (h : ∀ n,Lib.atoiAll s≠.ok n) : cr s = none:=by
 cases hr : cr s with
 | none=>rfl
 | some m =>
  obtain ⟨h1,rfl⟩:=qE.1 hr
  exact absurd (D0 m h1) (h m)
theorem GQ (s : ah) (h : 7 < s.length) : cr s = none:=by
 cases hr : cr s with
 | none=>rfl
 | some m =>
  obtain ⟨h1,rfl⟩:=qE.1 hr
  have:=E1 m h1
  omega
def ct (c : UInt8) : ah→List ah
 | []=>[[]]
 | b :: s=>if b = c then [] :: ct c s else match ct c s with
  | w :: ws=>(b :: w) :: ws
  | []=>[[b]]
theorem HG (c : UInt8) (s : ah) : ct c s≠[]:=by
 cases s with
 | nil=>simp [ct]
 | cons b s =>
  unfold ct
  split
  ·simp
  ·split <;> simp
def eJ (s : ah) : List ah:=((ct 44 s).map dL).filter fun w=>decide (w≠[])
end M
namespace M
open Go Go.RowKit
def lz (w w' : World) (c : C) : Prop:=(∀ Z,c.ok w' Z)∧c.bare∧∀ b k,c.fp b k→w.heap.size≤b
theorem JS [Bs] {P : Program} {f : FuncId} {xs : List X} {r : X}
  (h : ∀ w zl zb cs,cs.map C.er = xs→lp w zl zb cs→jt w→Calls P f (cs.map C.val).toArray w fun e w'=>∃ c : C,e = .returned c.val∧c.er = r∧Below w.heap.size w w'∧lz w w' c) :
  AC P f xs fun r' ps=>r' = r∧ps = xs.map fun _=>.dead:=by
 intro w zl zb cs e hA jF
 refine (h w zl zb cs e hA fun b hb=>(jF b hb).1).mono fun e' w' ⟨c,he,hc,hb,c1,c2,c3⟩=>?_
 have Bm : Ext (fun b k=>∃ x∈cs,x.fp b k) w w':=⟨hb.os,hb.tape,hb.output,hb.size,fun b hl=>.inl (hb.block b hl)⟩
 refine ⟨c,cs.map fun x=>.dead x.val,zl,⟨he,by rw [List.map_map]; rfl,Bm,⟨fun x hx'=>?_,fun x hx'=>?_,fun x hx' b k hf=>?_,fun b k hz=>Nat.lt_of_lt_of_le (hA.bG b k (hz.imp id fun h=>h.elim)) hb.size,?_⟩,fun x hx' b k hf=>?_,fun _ _ h=>h,fun _ _ h=>.inl h⟩,hc,?_⟩
 ·rcases List.mem_cons.1 hx' with rfl | hx'
  ·exact c1 _
  ·obtain ⟨y,_,rfl⟩:=List.mem_map.1 hx'; trivial
 ·rcases List.mem_cons.1 hx' with rfl | hx'
  ·exact c2
  ·obtain ⟨y,_,rfl⟩:=List.mem_map.1 hx'; trivial
 ·rcases List.mem_cons.1 hx' with rfl | hx'
  ·have h1:=c3 b k hf
   exact ⟨fun hz=>by have:=hA.bG b k (.inl hz); omega,fun hz=>hz⟩
  ·obtain ⟨y,_,rfl⟩:=List.mem_map.1 hx'; exact hf.elim
 ·refine List.pairwise_cons.2 ⟨fun x hx b k hf hf'=>?_,?_⟩
  ·obtain ⟨y,_,rfl⟩:=List.mem_map.1 hx; exact hf'
  ·refine List.pairwise_iff_getElem.2 fun i j hi hj _ b k hf=>?_
   obtain ⟨y,_,hy⟩:=List.mem_map.1 (List.getElem_mem hi)
   rw [← hy] at hf
   exact hf.elim
 ·rcases List.mem_cons.1 hx' with rfl | hx'
  ·exact .inr (c3 b k hf)
  ·obtain ⟨y,_,rfl⟩:=List.mem_map.1 hx'; exact hf.elim
 ·rw [← e]
  simp [List.map_map,Function.comp_def,C.er]
def fL (f0 : FuncId) (g : List X→Option X) : bz:=fun f xs=>if f = f0 then (match g xs with
 | some r=>some (r,xs.map fun _=>.dead)
 | none=>none) else none
theorem yz [Bs] {P : Program} {f0 : FuncId} {g : List X→Option X}
  (h : ∀ xs r,g xs = some r→∀ w zl zb cs,cs.map C.er = xs→lp w zl zb cs→jt w→Calls P f0 (cs.map C.val).toArray w fun e w'=>∃ c : C,e = .returned c.val∧c.er = r∧Below w.heap.size w w'∧lz w w' c) : (fL f0 g).Sound P:=fun f xs o e=>by
 unfold fL at e
 split at e
 ·rename_i hf
  subst hf
  split at e
  ·rename_i r hr
   cases e
   exact JS (h xs r hr)
  ·cases e
 ·cases e
theorem AU {c : C} {s : ByteArray} (h : c.er = .str s) : c = .str s:=by cases c <;> simp [C.er] at h; rw [h]
theorem map_nil {l : List C} (h : l.map C.er = []) : l = []:=by simpa using h
theorem map_cons {l : List C} {x : X} {xs : List X} (h : l.map C.er = x :: xs) : ∃ c cs,l = c :: cs∧c.er = x∧cs.map C.er = xs:=by
 cases l with
 | nil=>simp at h
 | cons c cs=>simp at h; exact ⟨c,cs,rfl,h.1,h.2⟩
theorem FF {w w' : World} {s : ByteArray} (h : s.size≤9223372036854775807) : lz w w' (.str s):=⟨fun _=>h,trivial,fun _ _ h=>h.elim⟩
theorem PU {w w' : World} {k : IntKind} {n : Int} : lz w w' (.int k n):=⟨fun _=>trivial,trivial,fun _ _ h=>h.elim⟩
theorem FE {w w' : World} {b : Bool} : lz w w' (.bool b):=⟨fun _=>trivial,trivial,fun _ _ h=>h.elim⟩
def vj (l : List C) : C:=.ax l.length fun j=>l.getD j (.dead undef)
theorem CT {α β : Type} (l : List α) (d : α) (g : α→β) : ((List.range l.length).map fun j=>g (l.getD j d)) = l.map g:=by
 apply List.ext_getElem
 ·simp
 ·intro i h1 h2
  simp at h1
  simp [h1]
theorem HW (l : List C) : (vj l).er = .ax (l.map C.er):=by
 show X.ax _ = _
 rw [CT l _ C.er]
theorem HX (l : List C) : (vj l).val = .tuple (l.map C.val).toArray:=by
 show Value.tuple _ = _
 rw [CT l _ C.val]
theorem FG {w w' : World} {l : List C} (h : ∀ c∈l,lz w w' c∧c.dK∧∀ b k,¬ c.fp b k) : lz w w' (vj l):=by
 have hm : ∀ j,j < l.length→l.getD j (.dead undef)∈l:=fun j hj=>by simp [List.getD,hj]
 refine ⟨fun Z=>⟨fun j hj=>⟨(h _ (hm j hj)).2.1,(h _ (hm j hj)).1.1 Z⟩,fun j hj b k hf=>((h _ (hm j hj)).2.2 b k hf).elim⟩,fun j hj=>(h _ (hm j hj)).1.2.1,fun b k hf=>?_⟩
 obtain ⟨j,hj,hf⟩:=hf
 exact ((h _ (hm j hj)).2.2 b k hf).elim
theorem PV {w w' : World} {g : Nat} {t : TypeId} {l : List ByteArray} (hg : w.heap.size≤g) (hb : w'.heap[g]? = some (.cells (l.map Value.string).toArray t (0,0))) (hs : ∀ s∈l,s.size≤9223372036854775807) :
  lz w w' (.row .own 1 (some (g,0,none)) l.length l.length fun i _=>.str (l.getD i ByteArray.empty)):=by
 have hm : ∀ j,j < l.length→l.getD j ByteArray.empty∈l:=fun j hj=>by simp [List.getD,hj]
 refine ⟨fun Z=>⟨Nat.le_refl _,fun i j hi hj=>⟨g,0,rfl,?_,fun h=>absurd rfl h⟩,fun i j hi hj=>⟨trivial,trivial,trivial,hs _ (hm i hi)⟩,fun _=>.inr ⟨g,0,_,t,(0,0),rfl,hb,?_,fun k _ _=>?_⟩,fun i j hi hj b k hf=>hf.elim⟩,trivial,fun b k hf=>?_⟩
 ·obtain rfl : j = 0:=by omega
  simp only [World.cell?,hb]
  simp [C.val,hi,Go.Value.oneCell']
 ·simp
 ·simp [World.frozen?,hb]
 ·obtain ⟨_,h | ⟨i,j,_,_,h⟩⟩:=hf
  ·obtain ⟨o,h⟩:=h
   have hgb:=congrArg Prod.fst (Option.some.inj h)
   have hgb : g = b:=hgb; exact hgb ▸ hg
  ·exact h.elim
theorem Tn (l : List ByteArray) (g cap : Nat) : (C.row .own 1 (some (g,0,none)) l.length cap fun i _=>.str (l.getD i ByteArray.empty)).er = .row .own 1 (l.map fun s=>[.str s]):=by
 show X.row _ _ _ = _
 congr 1
 have:=CT l ByteArray.empty fun s=>[X.str s]
 rw [← this]
 rfl
end M
namespace M
open Go
def zp (s : ah) : X:=.str ⟨s.toArray⟩
def CY (l : List ah) : X:=.row .own 1 (l.map eS)
def zz : List X→Option X
 | [.str s,.str c]=>if c.data.toList = [32]∧s.size≤9223372036854775807 then some (zp (dL s.data.toList)) else none
 | _=>none
def zn : List X→Option X
 | [.str s,.str c]=>if s.size < 4294967281∧1≤c.size then some (CY (Lib.split s.data.toList c.data.toList)) else none
 | _=>none
def vY : List X→Option X
 | [.str s,.str c]=>if s.size≤9223372036854775807 then some (.ax [zp (Lib.trimPrefix s.data.toList c.data.toList),.bool (Lib.hasPrefix s.data.toList c.data.toList)]) else none
 | _=>none
def yC : List X→Option X
 | [.str s]=>if s.size≤9223372036854775807 then some (match cr s.data.toList with
  | some n=>.ax [.int .i64 n,.bool true]
  | none=>.ax [.int .i64 0,.bool false]) else none
 | _=>none
theorem count_nil (c : UInt8) : Lib.count [] [c] = 0:=by rw [Lib.count_one]; rfl
theorem TE (c : UInt8) : ∀ s : ah,Lib.split s [c] = ct c s:=by
 have key : ∀ (n : Nat) (s : ah),s.length≤n→Lib.splitK [c] 0 (Lib.count s [c]) s = ct c s:=by
  intro n
  induction n with
  | zero =>
   intro s hs
   obtain rfl : s = []:=List.length_eq_zero_iff.1 (by omega)
   rw [count_nil]
   rfl
  | succ n ih =>
   intro s hs
   cases s with
   | nil=>rw [count_nil]; rfl
   | cons b s =>
    simp at hs
    have xG:=ih s (by omega)
    by_cases hb : b = c
    ·subst hb
     rw [Lib.count_cons_eq,Nat.add_comm]
     have hi : Lib.index (b :: s) [b] = 0:=Lib.index_first (i:=0) (Nat.zero_le _) (by simp [Lib.occAt]) (fun _ h=>absurd h (Nat.not_lt_zero _))
     simp only [Lib.splitK,hi,ct]
     simp [xG]
    ·rw [Lib.count_cons_ne _ _ _ hb]
     have hnext : Lib.index (b :: s) [c] = if Lib.index s [c] = -1 then -1 else Lib.index s [c] + 1:=by
      have h:=Lib.index_drop (s:=b :: s) (sub:=[c]) (i:=1) (fun j hj=>by
       obtain rfl : j = 0:=by omega
       simp [Lib.occAt,List.isPrefixOf,Ne.symm hb]) (by simp)
      simp at h
      exact h
     rw [ct,if_neg hb,← xG]
     cases hk : Lib.count s [c] with
     | zero=>simp [Lib.splitK]
     | succ k =>
      simp only [Lib.splitK,hnext]
      by_cases h1 : Lib.index s [c] = -1
      ·simp [h1]
      ·have h0 : 0≤Lib.index s [c]:=by
        have : -1≤Lib.index s [c]:=Lib.index_ge _ _
        omega
       have h2 : ¬ Lib.index s [c] + 1 = -1:=by omega
       have h3 : (Lib.index s [c] + 1).toNat = (Lib.index s [c]).toNat + 1:=by omega
       simp [h1,h2,h3]
 intro s
 exact key s.length s (Nat.le_refl _)
end M
namespace M
open Go
def cR {β : Type} (p : β→Bool) (l : List β) : Nat:=(l.takeWhile fun b=>!p b).length
theorem GG {β : Type} {f : ag→bH} (l : List β) (st : Nat→ag) (p : β→Bool) (E : Nat→ag) {x : Nat}
  (h : ∀ i b,l[i]? = some b→i < l.length→f (st i) = if p b = true then some (.exit x,E i) else some (.normal,st (i + 1)))
  (hend : f (st l.length) = some (.exit x,E l.length)) : aF f (st 0) = some (.exit x,E (cR p l)):=by
 suffices H : ∀ (r : List β) (i : Nat),l.drop i = r→i≤l.length→aF f (st i) = some (.exit x,E (i + cR p r)) by
  have:=H l 0 rfl (Nat.zero_le _)
  rwa [Nat.zero_add] at this
 intro r
 induction r with
 | nil =>
  intro i hr hi
  have : i = l.length:=by
   have:=congrArg List.length hr
   simp at this
   omega
  subst this
  rw [gS,hend]
  rfl
 | cons b r ih =>
  intro i hr hi
  have hb : l[i]? = some b:=by
   have:=congrArg (fun t : List β=>t[0]?) hr
   simpa using this
  have hlt : i < l.length:=(List.getElem?_eq_some_iff.1 hb).1
  have hd : l.drop (i + 1) = r:=by
   have:=congrArg List.tail hr
   simpa using this
  rw [gS,h i b hb hlt]
  unfold cR
  by_cases hp : p b = true
  ·simp [hp,dx]
  ·have:=ih (i + 1) hd hlt
   simp only [hp]
   have e : i + 1 + cR p r = i + (cR p r + 1):=by omega
   rw [e] at this
   simp [hp,dx,this,cR]
theorem zC {β : Type} (p : β→Bool) (l : List β) : cR p l≤l.length:=by
 unfold cR
 exact (List.takeWhile_sublist _).length_le
theorem H7 {β : Type} (p : β→Bool) : ∀ (l : List β) (j : Nat) (b : β),j < cR p l→l[j]? = some b→p b = false
 | [],j,b,h,_=>by simp [cR] at h
 | a :: l,j,b,h,hb=>by
  unfold cR at h
  rw [List.takeWhile_cons] at h
  by_cases hp : p a = true
  ·simp [hp] at h
  ·simp only [hp,Bool.not_false,if_true,List.length_cons] at h
   cases j with
   | zero=>simp at hb; subst hb; simpa using hp
   | succ j=>exact H7 p l j b (by unfold cR; omega) (by simpa using hb)
theorem H6 {β : Type} (p : β→Bool) : ∀ (l : List β) (b : β),l[cR p l]? = some b→p b = true
 | [],b,h=>by simp at h
 | a :: l,b,h=>by
  unfold cR at h
  rw [List.takeWhile_cons] at h
  by_cases hp : p a = true
  ·simp [hp] at h; subst h; exact hp
  ·simp only [hp,Bool.not_false,if_true,List.length_cons,List.getElem?_cons_succ] at h
   exact H6 p l b h
def fF (c : UInt8) (f : ah→List ah) (s : ah) (i : Nat) (g : List ah×Nat) (b : Option UInt8) : List ah×Nat:=match b with
 | some b=>if b = c then (g.1 ++ f ((s.take i).drop g.2),i + 1) else g
 | none=>(g.1 ++ f ((s.take i).drop g.2),i + 1)
theorem Dn (c : UInt8) : ∀ (cur rest : ah),(∀ b∈cur,b≠c)→ct c (cur ++ rest) = match ct c rest with
  | w :: ws=>(cur ++ w) :: ws
  | []=>[cur]
 | [],rest,_=>by
  cases h : ct c rest with
  | nil=>exact absurd h (HG c rest)
  | cons w ws=>simpa using h
 | a :: cur,rest,h=>by
  rw [List.cons_append,ct,if_neg (h a (List.mem_cons_self ..)),Dn c cur rest fun b hb=>h b (List.mem_cons_of_mem _ hb)]
  cases ct c rest <;> simp
theorem TC (c : UInt8) (cur : ah) (h : ∀ b∈cur,b≠c) : ct c cur = [cur]:=by
 have:=Dn c cur [] h
 simpa [ct] using this
theorem Dr : ∀ (p cur rest : ah),((p ++ (cur ++ rest)).take (p.length + cur.length)).drop p.length = cur
 | [],cur,rest=>by simp
 | a :: p,cur,rest=>by
  have:=Dr p cur rest
  simp only [List.length_cons,List.cons_append,show p.length + 1 + cur.length = p.length + cur.length + 1 by omega,List.take_succ_cons,List.drop_succ_cons]
  exact this
theorem PS (c : UInt8) (f : ah→List ah) (s : ah) : foldI (fF c f s) 0 (s.map some ++ [none]) ([],0) = ((ct c s).flatMap f,s.length + 1):=by
 suffices H : ∀ (rest p cur : ah) (out : List ah),s = p ++ cur ++ rest→(∀ b∈cur,b≠c)→foldI (fF c f s) (p.length + cur.length) (rest.map some ++ [none]) (out,p.length) = (out ++ (ct c (cur ++ rest)).flatMap f,s.length + 1) by
  have:=H s [] [] [] rfl (by simp)
  simpa using this
 intro rest
 induction rest with
 | nil =>
  intro p cur out hs hc
  simp only [List.append_nil] at hs ⊢
  rw [TC c cur hc]
  subst hs
  have e1:=Dr p cur []
  rw [List.append_nil] at e1
  simp [foldI,fF,e1]
 | cons b rest ih =>
  intro p cur out hs hc
  simp only [List.map_cons,List.cons_append,foldI]
  by_cases hb : b = c
  ·subst hb
   have e1 : (s.take (p.length + cur.length)).drop p.length = cur:=by subst hs; have:=Dr p cur (b :: rest); rwa [← List.append_assoc] at this
   have:=ih (p ++ cur ++ [b]) [] (out ++ f cur) (by simp [hs]) (by simp)
   simp only [List.length_append,List.length_cons,List.length_nil,List.nil_append] at this
   simp only [fF,if_true,e1]
   rw [show p.length + cur.length + 1 = p.length + cur.length + (0 + 1) + 0 by omega,this,Dn b cur (b :: rest) hc]
   simp [ct]
  ·have:=ih p (cur ++ [b]) out (by simp [hs]) (by
    intro x hx
    rcases List.mem_append.1 hx with hx | hx
    ·exact hc x hx
    ·rw [List.mem_singleton.1 hx]; exact hb)
   simp only [List.length_append,List.length_cons,List.length_nil] at this
   simp only [fF,hb,if_false]
   rw [show p.length + cur.length + 1 = p.length + (cur.length + (0 + 1)) by omega,this]
   simp
theorem Ih (s : ah) : eJ s = (ct 44 s).flatMap fun w=>if dL w≠[] then [dL w] else []:=by
 unfold eJ
 induction ct 44 s with
 | nil=>rfl
 | cons w l ih =>
  simp only [List.map_cons,List.filter_cons,List.flatMap_cons,← ih]
  by_cases h : dL w = [] <;> simp [h]
@[simp] theorem YC (l : List UInt8) : l.map (fun b : UInt8=>[X.int IntKind.u8 (b.toNat : Int)]) = l.map eU:=rfl
@[simp] theorem aat (l : List UInt8) : mW (l.map eU) = some l:=HZ l
theorem Dq (c : UInt8) : ∀ s : ah,((ct c s).map List.length).sum + (ct c s).length = s.length + 1
 | []=>rfl
 | b :: s=>by
  have:=Dq c s
  unfold ct
  split
  ·simp; omega
  ·cases h : ct c s with
   | nil=>exact absurd h (HG c s)
   | cons w ws=>rw [h] at this; simp at this ⊢; omega
theorem HE (c : UInt8) (s : ah) : (ct c s).length≤s.length + 1:=by have:=Dq c s; omega
theorem HF (c : UInt8) (s : ah) : ∀ w∈ct c s,w.length≤s.length:=by
 intro w hw
 have h:=Dq c s
 have h1 : w.length + 1≤((ct c s).map List.length).sum + (ct c s).length:=by
  clear h
  revert hw
  generalize ct c s = l
  intro hw
  induction l with
  | nil=>cases hw
  | cons x l ih =>
   rcases List.mem_cons.1 hw with rfl | hw
   ·simp; omega
   ·have:=ih hw; simp; omega
 omega
theorem GH (b : UInt8) (h : 65≤b.toNat∧b.toNat≤90) : (b + 32).toNat = b.toNat + 32:=by
 rw [UInt8.toNat_add]
 have : (32 : UInt8).toNat = 32:=rfl
 omega
theorem Ij {n : Int} (h1 : 0≤n) (h2 : n < 256) : IntKind.u8.wrap n = n:=Ik h1 h2
end M
namespace M
theorem A5 {β γ : Type} (φ : β→List γ) (hφ : ∀ b,(φ b).length≤1) (l : List β) (i : Nat) : ((l.take i).flatMap φ).length≤i:=by
 induction l generalizing i with
 | nil=>simp
 | cons b l ih =>
  cases i with
  | zero=>simp
  | succ i =>
   have:=ih i
   have:=hφ b
   simp only [List.take_succ_cons,List.flatMap_cons,List.length_append]
   omega
end M
namespace M
@[simp] theorem XG (i : Nat) : ((i : Int) < 0) = False:=by simp
end M
namespace M
def fK {α : Type} (f : α→α) (l : List α) (i : Nat) : List α:=(l.take i).map f ++ l.drop i
@[simp] theorem Zi {α : Type} (f : α→α) (l : List α) (i : Nat) : (fK f l i).length = l.length:=by simp [fK]; omega
theorem RE {α : Type} (f : α→α) (l : List α) : fK f l 0 = l:=by simp [fK]
theorem RA {α : Type} (f : α→α) (l : List α) : fK f l l.length = l.map f:=by simp [fK]
theorem RB {α : Type} (f : α→α) (l : List α) (i : Nat) (h : i < l.length) : (fK f l i)[i]? = some l[i]:=by
 unfold fK
 rw [List.getElem?_append_right (by simp; omega)]
 have : i - ((l.take i).map f).length = 0:=by simp; omega
 rw [this]
 simp [h]
theorem RC {α : Type} (f : α→α) (l : List α) (i : Nat) (h : i < l.length) (h' : i < (fK f l i).length) : (fK f l i)[i] = l[i]:=by
 have:=RB f l i h
 rw [List.getElem?_eq_getElem h'] at this
 exact Option.some.inj this
theorem RD {α : Type} (f : α→α) (l : List α) (i : Nat) (h : i < l.length) : (fK f l i).set i (f l[i]) = fK f l (i + 1):=by
 unfold fK
 rw [List.set_append_right _ _ (by simp; omega),List.drop_eq_getElem_cons h]
 have : i - ((l.take i).map f).length = 0:=by simp; omega
 rw [this,List.take_succ_eq_append_getElem h]
 simp only [List.set_cons_zero,List.map_append,List.map_cons,List.map_nil,List.append_assoc,List.cons_append,List.nil_append]
end M
namespace M
@[simp] theorem RH (m : Md) : ∀ (i : Nat) (l : List (List X)),X.bp m (l.take i) = (X.bp m l).take i
 | 0,l=>by simp [X.bp]
 | i + 1,[]=>by simp [X.bp]
 | i + 1,a :: l=>by simp [X.bp,RH m i l]
@[simp] theorem RG (m : Md) : ∀ (i : Nat) (l : List (List X)),X.bp m (l.drop i) = (X.bp m l).drop i
 | 0,l=>by simp
 | i + 1,[]=>by simp [X.bp]
 | i + 1,a :: l=>by simp [X.bp,RG m i l]
end M
namespace M
open Go
abbrev yA : ah:=[99,111,110,116,101,110,116,45,108,101,110,103,116,104]
abbrev fM : ah:=[99,97,99,104,101,45,99,111,110,116,114,111,108]
abbrev ga : ah:=[101,116,97,103]
abbrev eo : ah:=[118,97,114,121]
abbrev cx : ah:=[97,103,101]
abbrev jQ : ah:=[105,102,45,110,111,110,101,45,109,97,116,99,104]
theorem zF {l : List ah} {a : ah} (h : a∈l) : a.length≤wL wS l:=dz (w:=wS) h
theorem DC {l : List aD} {a : aD} (h : a∈l) : a.name.length + a.value.length≤wL aC l:=dz (w:=aC) h
def ey (fs : List aD) (n : ah) : Option (Nat×aD):=cF (fun f=>decide (f.name = n)) 0 fs
def eL (o : Option (Nat×aD)) : Int:=o.elim (-1) fun x=>(x.1 : Int)
def b8 (fs : List aD) (n : ah) : Option ah:=(ey fs n).map fun x=>x.2.value
theorem vN {fs : List aD} {n : ah} {i : Nat} {f : aD} (h : ey fs n = some (i,f)) : ∃ hi : i < fs.length,fs[i] = f∧f.name = n:=by
 obtain ⟨_,h2,h3⟩:=pF h
 simp at h2 h3
 obtain ⟨hi,e⟩:=List.getElem?_eq_some_iff.1 h2
 exact ⟨hi,e,h3⟩
theorem nD (fs : List aD) (n : ah) : ((b8 fs n).getD []).length≤wL aC fs:=by
 unfold b8
 cases h : ey fs n with
 | none=>simp
 | some x =>
  obtain ⟨i,f⟩:=x
  obtain ⟨hi,rfl,_⟩:=vN h
  have:=DC (List.getElem_mem hi)
  simp
  omega
def fT (fs : List aD) (x : aD×Nat) : Bool:=eH x.1.name && gF x.1.value && decide (eL (ey fs x.1.name) = x.2) && !decide (x.1.name = yA)
def ku (fs : List aD) : Bool:=aI (fT fs) fs.zipIdx && decide ((fs.length : Int)≤8)
def fq (fs : List aD) (n v : ah) : List aD:=match ey fs n with
 | some x=>fs.set x.1 ⟨x.2.name,v⟩
 | none=>fs ++ [⟨n,v⟩]
theorem HM {α : Type} (w : α→Nat) : ∀ (l : List α) (i : Nat) (a : α) (h : i < l.length),((l.set i a).map w).sum + w l[i] = (l.map w).sum + w a
 | b :: l,0,a,_=>by simp; omega
 | b :: l,i + 1,a,h=>by
  have:=HM w l i a (by simpa using h)
  simp at this ⊢; omega
theorem qI (fs : List aD) (n v : ah) : wL aC (fq fs n v)≤wL aC fs + n.length + v.length + 1:=by
 unfold fq
 cases h : ey fs n with
 | none=>simp [wL,aC]; omega
 | some x =>
  obtain ⟨i,f⟩:=x
  obtain ⟨hi,rfl,h3⟩:=vN h
  have:=HM aC fs i ⟨fs[i].name,v⟩ hi
  simp only [wL,List.length_set]
  simp only [aC] at this ⊢
  omega
def iF (r : bY) : Bool:=decide (100≤r.status∧r.status≤599) && ku r.fields && decide ((r.body.length : Int)≤120)
def jk (q : Rq) : Bool:=decide (1≤q.method∧q.method≤4) && gb q.path && ku q.fields && decide ((q.body.length : Int)≤120)
def within (n : Int) : Int:=max 0 (min n 1000000)
def plus (a b : Int) : Int:=within (within a + within b)
def since (t now : Int) : Int:=if now≤t then 0 else min (now - t) 1000000
def rD (fs : List aD) : Int:=match b8 fs cx with
 | some v=>match cr v with
  | some n=>n
  | none=>1000000
 | none=>0
def cC (fs : List aD) (t now : Int) : Int:=plus (rD fs) (since t now)
def j8 (fs : List aD) : List ah:=(eJ ((b8 fs eo).getD [])).map bw
def CH (l : List ah) : Bool:=aI eH l && decide ((l.length : Int)≤4)
def mS (q : Rq) (fs : List aD) : Bool:=(b8 q.fields jQ).isSome && (b8 fs ga).isSome && decide ((b8 q.fields jQ).getD [] = (b8 fs ga).getD [])
def cU (f : aD) : Bool:=decide (f.name = ga) || decide (f.name = eo) || decide (f.name = fM)
def gD (r : bY) : bY:=⟨304,r.fields.filter cU,[]⟩
def jg (o : Ob) : Bool:=iF o.resp && gb o.path && decide (0≤o.t∧o.t≤1000000) && CH o.names && decide (o.names = j8 o.resp.fields) && decide (o.values.length = o.names.length) && aI gF o.values
def ju (b : Bn) : Bool:=decide (0≤b.t∧b.t≤1000000) && (if b.kind = 1∨b.kind = 2 then gb b.a && decide (b.b = []) else if b.kind = 3 then eH b.a && gF b.b else false)
def oo (w : Wr) : Bool:=decide (0≤w.at_∧w.at_≤19)
def om (d : eK) : Bool:=aI oo d.pending && decide ((d.cells.length : Int) = 20) && decide ((d.pending.length : Int)≤16)
def ji (l : List Kp) (i : Nat) : Int:=if i = 0 then 0 else (l[i - 1]?.map fun k=>k.seq).getD 0
def nZ (S : Int) (l : List Kp) (x : Kp×Nat) : Bool:=jg x.1.obj && decide (5≤x.1.at_∧x.1.at_≤19) && aI (fun y=>decide ¬ y.at_ = x.1.at_) (l.take x.2) && decide (ji l x.2 < x.1.seq) && decide (x.1.seq < S)
def gR (S : Int) (l : List Kp) (x : Kp×Nat) : Bool:=jg x.1.obj && decide (5≤x.1.at_∧x.1.at_≤19) && decide (1≤x.1.seq∧x.1.seq≤S - 1) && decide (x.2 = 0∨ji l x.2 < x.1.seq) && aI (fun y=>decide ¬ y.at_ = x.1.at_) (l.take x.2)
def ur (S : Int) (l : List Kp) : Bool:=aI (nZ S l) l.zipIdx
theorem CR (l : List Kp) (i : Nat) (h : i < l.length) : ji l (i + 1) = l[i].seq:=by simp [ji,h]
theorem Rw (S : Int) (l : List Kp) : aI (gR S l) l.zipIdx = ur S l:=by
 unfold ur
 rw [Bool.eq_iff_iff,lE,lE]
 have hm : ∀ x∈l.zipIdx,∃ h : x.2 < l.length,x.1 = l[x.2]:=fun x hx=>by
  obtain ⟨i,hi,rfl⟩:=List.getElem_of_mem hx
  simp at hi
  exact ⟨by simpa using hi,by simp⟩
 have hz : ∀ i (h : i < l.length),(l[i],i)∈l.zipIdx:=fun i h=>by
  have : (l.zipIdx)[i]'(by simpa using h) = (l[i],i):=by simp
  rw [← this]; exact List.getElem_mem _
 constructor
 ·intro h x hx
  have h1:=h x hx
  simp only [gR,nZ,Bool.and_eq_true,decide_eq_true_eq] at h1 ⊢
  obtain ⟨⟨⟨⟨a,b⟩,c⟩,d⟩,e⟩:=h1
  refine ⟨⟨⟨⟨a,b⟩,e⟩,?_⟩,by omega⟩
  rcases d with d | d
  ·rw [d]
   have : ji l 0 = 0:=rfl
   omega
  ·exact d
 ·intro h
  have pos : ∀ i (hi : i < l.length),1≤l[i].seq:=by
   intro i
   induction i with
   | zero =>
    intro hi
    have h1:=h _ (hz 0 hi)
    simp only [nZ,Bool.and_eq_true,decide_eq_true_eq] at h1
    have : ji l 0 = 0:=rfl
    omega
   | succ i ih =>
    intro hi
    have h1:=h _ (hz (i + 1) hi)
    simp only [nZ,Bool.and_eq_true,decide_eq_true_eq] at h1
    have h2:=CR l i (by omega)
    have h3:=ih (by omega)
    omega
  intro x hx
  have h1:=h x hx
  obtain ⟨hl,e⟩:=hm x hx
  have h2:=pos x.2 hl
  rw [← e] at h2
  simp only [gR,nZ,Bool.and_eq_true,decide_eq_true_eq] at h1 ⊢
  obtain ⟨⟨⟨⟨a,b⟩,c⟩,d⟩,f⟩:=h1
  exact ⟨⟨⟨⟨a,b⟩,by omega⟩,.inr d⟩,c⟩
theorem Fu {β : Type} (p : β→Bool) : ∀ (l : List β) (k : Nat),(cF p k l).isSome = !aI (fun b=>!p b) l
 | [],_=>rfl
 | b :: l,k=>by
  unfold cF aI
  by_cases h : p b = true
  ·simp [h]
  ·have:=Fu p l (k + 1)
   unfold aI at this
   simp [h,this]
theorem Ig {l : List Kp} {k : Kp} (h : k∈l) : bA k.obj≤wL bF l:=dz (w:=bF) h
theorem Ie {l : List Bn} {b : Bn} (h : b∈l) : bq b≤wL bq l:=dz (w:=bq) h
def oG (s : Sh) : Bool:=om s.bJ && decide ((s.aX.length : Int)≤5) && decide (5≤s.next∧s.next≤19) && decide (1≤s.seq∧s.seq≤100000) && aI ju s.aX && ur s.seq s.aG
def answer (q : Rq) (o : Ob) (now : Int) : bY :=
 let out:=if mS q o.resp.fields = true then gD o.resp else o.resp
 let w : bY:=⟨out.status,fq out.fields cx (cJ (cC o.resp.fields o.t now)),out.body⟩
 if iF w = true then w else out
theorem Dl (r : bY) : wL aC (r.fields.filter cU)≤wL aC r.fields:=by
 unfold wL
 have h1:=List.length_filter_le cU r.fields
 have h2 : ((r.fields.filter cU).map aC).sum≤(r.fields.map aC).sum:=by
  generalize r.fields = l
  induction l with
  | nil=>simp
  | cons a l ih =>
   rw [List.filter_cons]
   split <;> simp <;> omega
 omega
end M
namespace M
open Go
def dJ (_ : Int) (k : Int) : Int:=k
def cT (_ : ah) (k : Int) : ah:=ud k
def GK (_ : Bool) (k : Int) : Bool:=decide (k.tmod 3 = 0)
def aN {α : Type} (_ : α) : Nat:=1
def cO {α : Type} (mk : α→Int→α) (n : α→Nat) : List α→Int→List α
 | [],_=>[]
 | a :: l,k=>mk a k :: cO mk n l (k + (n a : Nat))
def nL {α : Type} (n : α→Nat) (l : List α) : Nat:=(l.map n).sum
@[simp] theorem RN {α : Type} (mk : α→Int→α) (n : α→Nat) : ∀ (l : List α) (k : Int),(cO mk n l k).length = l.length
 | [],_=>rfl
 | a :: l,k=>by simp [cO,RN mk n l]
def jP (a : aD) (k : Int) : aD:=⟨cT a.name (k),cT a.value (k + 1)⟩
def aM (a : aD) : Nat:=2
def RT (a : Wr) (k : Int) : Wr:=⟨dJ a.at_ (k),cT a.text (k + 1)⟩
def EU (a : Wr) : Nat:=2
def RQ (a : Kp) (k : Int) : Kp:=⟨⟨cT a.obj.path (k),cO cT aN a.obj.names (k + 1),cO cT aN a.obj.values (k + 1 + (nL aN a.obj.names : Nat)),⟨dJ a.obj.resp.status (k + 1 + (nL aN a.obj.names : Nat) + (nL aN a.obj.values : Nat)),cO jP aM a.obj.resp.fields (k + 1 + (nL aN a.obj.names : Nat) + (nL aN a.obj.values : Nat) + 1),cT a.obj.resp.body (k + 1 + (nL aN a.obj.names : Nat) + (nL aN a.obj.values : Nat) + 1 + (nL aM a.obj.resp.fields : Nat))⟩,dJ a.obj.t (k + 1 + (nL aN a.obj.names : Nat) + (nL aN a.obj.values : Nat) + 1 + (nL aM a.obj.resp.fields : Nat) + 1)⟩,dJ a.at_ (k + 1 + (nL aN a.obj.names : Nat) + (nL aN a.obj.values : Nat) + 1 + (nL aM a.obj.resp.fields : Nat) + 1 + 1),dJ a.seq (k + 1 + (nL aN a.obj.names : Nat) + (nL aN a.obj.values : Nat) + 1 + (nL aM a.obj.resp.fields : Nat) + 1 + 1 + 1)⟩
def AD (a : Kp) : Nat:=6 + nL aN a.obj.names + nL aN a.obj.values + nL aM a.obj.resp.fields
def RO (a : Bn) (k : Int) : Bn:=⟨dJ a.kind (k),cT a.a (k + 1),cT a.b (k + 1 + 1),dJ a.t (k + 1 + 1 + 1)⟩
def ES (a : Bn) : Nat:=4
def RP (a : Fl) (k : Int) : Fl:=⟨⟨dJ a.q.method (k),cT a.q.path (k + 1),cO jP aM a.q.fields (k + 1 + 1),cT a.q.body (k + 1 + 1 + (nL aM a.q.fields : Nat))⟩,cO dJ aN a.who (k + 1 + 1 + (nL aM a.q.fields : Nat) + 1),⟨cT a.old.path (k + 1 + 1 + (nL aM a.q.fields : Nat) + 1 + (nL aN a.who : Nat)),cO cT aN a.old.names (k + 1 + 1 + (nL aM a.q.fields : Nat) + 1 + (nL aN a.who : Nat) + 1),cO cT aN a.old.values (k + 1 + 1 + (nL aM a.q.fields : Nat) + 1 + (nL aN a.who : Nat) + 1 + (nL aN a.old.names : Nat)),⟨dJ a.old.resp.status (k + 1 + 1 + (nL aM a.q.fields : Nat) + 1 + (nL aN a.who : Nat) + 1 + (nL aN a.old.names : Nat) + (nL aN a.old.values : Nat)),cO jP aM a.old.resp.fields (k + 1 + 1 + (nL aM a.q.fields : Nat) + 1 + (nL aN a.who : Nat) + 1 + (nL aN a.old.names : Nat) + (nL aN a.old.values : Nat) + 1),cT a.old.resp.body (k + 1 + 1 + (nL aM a.q.fields : Nat) + 1 + (nL aN a.who : Nat) + 1 + (nL aN a.old.names : Nat) + (nL aN a.old.values : Nat) + 1 + (nL aM a.old.resp.fields : Nat))⟩,dJ a.old.t (k + 1 + 1 + (nL aM a.q.fields : Nat) + 1 + (nL aN a.who : Nat) + 1 + (nL aN a.old.names : Nat) + (nL aN a.old.values : Nat) + 1 + (nL aM a.old.resp.fields : Nat) + 1)⟩,GK a.jD (k + 1 + 1 + (nL aM a.q.fields : Nat) + 1 + (nL aN a.who : Nat) + 1 + (nL aN a.old.names : Nat) + (nL aN a.old.values : Nat) + 1 + (nL aM a.old.resp.fields : Nat) + 1 + 1)⟩
def AB (a : Fl) : Nat:=8 + nL aM a.q.fields + nL aN a.who + nL aN a.old.names + nL aN a.old.values + nL aM a.old.resp.fields
def RS (a : Se) (k : Int) : Se:=⟨⟨dJ a.q.method (k),cT a.q.path (k + 1),cO jP aM a.q.fields (k + 1 + 1),cT a.q.body (k + 1 + 1 + (nL aM a.q.fields : Nat))⟩,⟨dJ a.resp.status (k + 1 + 1 + (nL aM a.q.fields : Nat) + 1),cO jP aM a.resp.fields (k + 1 + 1 + (nL aM a.q.fields : Nat) + 1 + 1),cT a.resp.body (k + 1 + 1 + (nL aM a.q.fields : Nat) + 1 + 1 + (nL aM a.resp.fields : Nat))⟩,dJ a.t (k + 1 + 1 + (nL aM a.q.fields : Nat) + 1 + 1 + (nL aM a.resp.fields : Nat) + 1)⟩
def ET (a : Se) : Nat:=6 + nL aM a.q.fields + nL aM a.resp.fields
def RR (a : Rp) (k : Int) : Rp:=⟨dJ a.client (k),⟨dJ a.q.method (k + 1),cT a.q.path (k + 1 + 1),cO jP aM a.q.fields (k + 1 + 1 + 1),cT a.q.body (k + 1 + 1 + 1 + (nL aM a.q.fields : Nat))⟩,⟨dJ a.resp.status (k + 1 + 1 + 1 + (nL aM a.q.fields : Nat) + 1),cO jP aM a.resp.fields (k + 1 + 1 + 1 + (nL aM a.q.fields : Nat) + 1 + 1),cT a.resp.body (k + 1 + 1 + 1 + (nL aM a.q.fields : Nat) + 1 + 1 + (nL aM a.resp.fields : Nat))⟩,dJ a.kind (k + 1 + 1 + 1 + (nL aM a.q.fields : Nat) + 1 + 1 + (nL aM a.resp.fields : Nat) + 1),dJ a.t (k + 1 + 1 + 1 + (nL aM a.q.fields : Nat) + 1 + 1 + (nL aM a.resp.fields : Nat) + 1 + 1),⟨cT a.obj.path (k + 1 + 1 + 1 + (nL aM a.q.fields : Nat) + 1 + 1 + (nL aM a.resp.fields : Nat) + 1 + 1 + 1),cO cT aN a.obj.names (k + 1 + 1 + 1 + (nL aM a.q.fields : Nat) + 1 + 1 + (nL aM a.resp.fields : Nat) + 1 + 1 + 1 + 1),cO cT aN a.obj.values (k + 1 + 1 + 1 + (nL aM a.q.fields : Nat) + 1 + 1 + (nL aM a.resp.fields : Nat) + 1 + 1 + 1 + 1 + (nL aN a.obj.names : Nat)),⟨dJ a.obj.resp.status (k + 1 + 1 + 1 + (nL aM a.q.fields : Nat) + 1 + 1 + (nL aM a.resp.fields : Nat) + 1 + 1 + 1 + 1 + (nL aN a.obj.names : Nat) + (nL aN a.obj.values : Nat)),cO jP aM a.obj.resp.fields (k + 1 + 1 + 1 + (nL aM a.q.fields : Nat) + 1 + 1 + (nL aM a.resp.fields : Nat) + 1 + 1 + 1 + 1 + (nL aN a.obj.names : Nat) + (nL aN a.obj.values : Nat) + 1),cT a.obj.resp.body (k + 1 + 1 + 1 + (nL aM a.q.fields : Nat) + 1 + 1 + (nL aM a.resp.fields : Nat) + 1 + 1 + 1 + 1 + (nL aN a.obj.names : Nat) + (nL aN a.obj.values : Nat) + 1 + (nL aM a.obj.resp.fields : Nat))⟩,dJ a.obj.t (k + 1 + 1 + 1 + (nL aM a.q.fields : Nat) + 1 + 1 + (nL aM a.resp.fields : Nat) + 1 + 1 + 1 + 1 + (nL aN a.obj.names : Nat) + (nL aN a.obj.values : Nat) + 1 + (nL aM a.obj.resp.fields : Nat) + 1)⟩,dJ a.aX (k + 1 + 1 + 1 + (nL aM a.q.fields : Nat) + 1 + 1 + (nL aM a.resp.fields : Nat) + 1 + 1 + 1 + 1 + (nL aN a.obj.names : Nat) + (nL aN a.obj.values : Nat) + 1 + (nL aM a.obj.resp.fields : Nat) + 1 + 1)⟩
def L8 (a : Rp) : Nat:=13 + nL aM a.q.fields + nL aM a.resp.fields + nL aN a.obj.names + nL aN a.obj.values + nL aM a.obj.resp.fields
def vh (a : Rq) (k : Int) : Rq:=⟨a.method,a.path,cO jP aM a.fields (k),a.body⟩
@[simp] theorem aam (a : Rq) (k : Int) : (vh a k).method = a.method:=rfl
@[simp] theorem aan (a : Rq) (k : Int) : (vh a k).path = a.path:=rfl
@[simp] theorem aal (a : Rq) (k : Int) : (vh a k).body = a.body:=rfl
def Dw (a : Rq) : Nat:=nL aM a.fields
def ri (a : bY) (k : Int) : bY:=⟨a.status,cO jP aM a.fields (k),a.body⟩
@[simp] theorem aap (a : bY) (k : Int) : (ri a k).status = a.status:=rfl
@[simp] theorem aao (a : bY) (k : Int) : (ri a k).body = a.body:=rfl
def TU (a : bY) : Nat:=nL aM a.fields
def Du (a : Ob) (k : Int) : Ob:=⟨a.path,cO cT aN a.names (k),cO cT aN a.values (k + (nL aN a.names : Nat)),ri a.resp (k + (nL aN a.names : Nat) + (nL aN a.values : Nat)),a.t⟩
@[simp] theorem aai (a : Ob) (k : Int) : (Du a k).path = a.path:=rfl
@[simp] theorem aaj (a : Ob) (k : Int) : (Du a k).resp = ri a.resp (k + (nL aN a.names : Nat) + (nL aN a.values : Nat)):=rfl
@[simp] theorem aak (a : Ob) (k : Int) : (Du a k).t = a.t:=rfl
def HR (a : eK) (k : Int) : eK:=⟨cO cT aN a.cells (k),cO RT EU a.pending (k + (nL aN a.cells : Nat))⟩
def Dv (a : eK) : Nat:=nL aN a.cells + nL EU a.pending
def vi (a : Sh) (k : Int) : Sh:=⟨HR a.bJ (k),cO RQ AD a.aG (k + (Dv a.bJ : Nat)),cO RO ES a.aX (k + (Dv a.bJ : Nat) + (nL AD a.aG : Nat)),a.next,a.seq⟩
@[simp] theorem aaq (a : Sh) (k : Int) : (vi a k).bJ = HR a.bJ (k):=rfl
@[simp] theorem aar (a : Sh) (k : Int) : (vi a k).next = a.next:=rfl
@[simp] theorem aas (a : Sh) (k : Int) : (vi a k).seq = a.seq:=rfl
def Dx (a : Sh) : Nat:=Dv a.bJ + nL AD a.aG + nL ES a.aX
def HQ (a : Ca) (k : Int) : Ca:=⟨vi a.cz (k),cO RP AB a.aT (k + (Dx a.cz : Nat)),a.now,cO RS ET a.seen (k + (Dx a.cz : Nat) + (nL AB a.aT : Nat)),cO RR L8 a.sent (k + (Dx a.cz : Nat) + (nL AB a.aT : Nat) + (nL ET a.seen : Nat))⟩
@[simp] theorem Z9 (a : Ca) (k : Int) : (HQ a k).cz = vi a.cz (k):=rfl
@[simp] theorem Z8 (a : Ca) (k : Int) : (HQ a k).now = a.now:=rfl
def q9 (a : De) (k : Int) : De:=⟨a.kind,a.client,vh a.q (k),a.a,ri a.resp (k + (Dw a.q : Nat)),a.lI,cO GK aN a.keep (k + (Dw a.q : Nat) + (TU a.resp : Nat))⟩
@[simp] theorem aaf (a : De) (k : Int) : (q9 a k).kind = a.kind:=rfl
@[simp] theorem aae (a : De) (k : Int) : (q9 a k).client = a.client:=rfl
@[simp] theorem aag (a : De) (k : Int) : (q9 a k).q = vh a.q (k):=rfl
@[simp] theorem aac (a : De) (k : Int) : (q9 a k).a = a.a:=rfl
@[simp] theorem aah (a : De) (k : Int) : (q9 a k).resp = ri a.resp (k + (Dw a.q : Nat)):=rfl
@[simp] theorem aad (a : De) (k : Int) : (q9 a k).lI = a.lI:=rfl
end M
namespace M
open Go Go.RowKit
theorem jt.cell [B : Bs] {w : World} (h : jt w) {b k : Nat} {v : Value} (hc : B.W0.cell? ⟨b,k,none⟩ = some v) : w.cell? ⟨b,k,none⟩ = some v:=by
 have hb : b < B.W0.heap.size:=by
  rcases Nat.lt_or_ge b B.W0.heap.size with h | h
  ·exact h
  ·simp [World.cell?,Array.getElem?_eq_none h] at hc
 have e:=h b hb
 simpa [World.cell?,e] using hc
theorem J3 (w : World) : Below w.heap.size w w.drew:=(Below.refl _ _).drew
theorem DA {cs : List C} {s c : ByteArray} (h : cs.map C.er = [.str s,.str c]) : cs = [.str s,.str c]:=by
 obtain ⟨a,r,rfl,h1,h2⟩:=map_cons h
 obtain ⟨b,r',rfl,h3,h4⟩:=map_cons h2
 obtain rfl:=map_nil h4
 rw [AU h1,AU h3]
theorem Sk {cs : List C} {s : ByteArray} (h : cs.map C.er = [.str s]) : cs = [.str s]:=by
 obtain ⟨a,r,rfl,h1,h2⟩:=map_cons h
 obtain rfl:=map_nil h2
 rw [AU h1]
theorem WM [Bs] {P : Program} {f0 : FuncId} (hc : ∀ (s : ByteArray) (c : UInt8),c.toNat < 128→∀ w,s.size≤9223372036854775807 →
  Calls P f0 #[.string s,.string ⟨#[c]⟩] w fun e w'=>e = .returned (.string ⟨(Lib.trimB s.data.toList c).toArray⟩)∧(w' = w∨w' = w.drew)) : (fL f0 zz).Sound P :=
 yz fun xs r hg w zl zb cs hx hA hs=>by
  unfold zz at hg
  split at hg
  ·rename_i s c
   split at hg
   ·rename_i hh
    cases hg
    obtain rfl:=DA hx
    have e : c = ⟨#[32]⟩:=by
     have:=congrArg List.toArray hh.1
     simp at this
     cases c; simp at this; rw [this]
    subst e
    refine (hc s 32 (by decide) w hh.2).mono fun e w' ⟨he,hw⟩=>⟨.str ⟨(dL s.data.toList).toArray⟩,he,rfl,?_,FF ?_⟩
    ·rcases hw with rfl | rfl
     ·exact Below.refl _ _
     ·exact J3 _
    ·have:=HU s.data.toList
     have h2:=hh.2
     simp only [ByteArray.size] at h2 ⊢
     simp at this ⊢
     omega
   ·cases hg
  ·cases hg
theorem TD [B : Bs] {P : Program} {f0 : FuncId} {g1 : Nat} {t9 : TypeId} (hm : ∃ m,B.W0.cell? ⟨g1,0,none⟩ = some (.int .i64 m)) (hc : ∀ (s sep : ByteArray) (m : Int) (w : World),s.size < 4294967281→w.cell? ⟨g1,0,none⟩ = some (.int .i64 m)→1≤sep.size →
  Calls P f0 #[.string s,.string sep] w fun e w'=>e = .returned (.slice (some ⟨w.heap.size,0,none⟩) (Lib.countB s sep + 1) (Lib.countB s sep + 1))∧w' = w.alloc (.cells ((Lib.splitB sep 0 (Lib.countB s sep) s).map Value.string).toArray t9)) : (fL f0 zn).Sound P :=
 yz fun xs r hg w zl zb cs hx hA hs=>by
  unfold zn at hg
  split at hg
  ·rename_i s c
   split at hg
   ·rename_i hh
    cases hg
    obtain rfl:=DA hx
    obtain ⟨m,hm⟩:=hm
    have hlen:=Lib.splitB_all c hh.2 0 _ s rfl
    have F6:=Lib.splitB_data c 0 (Lib.countB s c) s
    refine (hc s c m w hh.1 (hs.cell hm) hh.2).mono fun e w' ⟨he,hw⟩=>?_
    subst hw
    refine ⟨.row .own 1 (some (w.heap.size,0,none)) (Lib.splitB c 0 (Lib.countB s c) s).length (Lib.splitB c 0 (Lib.countB s c) s).length fun i _=>.str ((Lib.splitB c 0 (Lib.countB s c) s).getD i ByteArray.empty),?_,?_,?_,?_⟩
    ·rw [he,hlen]; rfl
    ·rw [Tn]
     unfold CY
     congr 1
     have : Lib.split s.data.toList c.data.toList = (Lib.splitB c 0 (Lib.countB s c) s).map (·.data.toList):=F6.symm
     rw [this,List.map_map]
     refine List.map_congr_left fun x _=>?_
     simp
    ·exact (Below.refl _ _).alloc (Nat.le_refl _) _
    ·refine PV (Nat.le_refl _) (t:=t9) ?_ fun x hx=>?_
     ·show (w.heap.push _)[w.heap.size]? = _
      simp
     ·have h1 : x.data.toList∈Lib.splitK c.data.toList 0 (Lib.countB s c) s.data.toList:=by rw [← F6]; exact List.mem_map_of_mem hx
      have h2 : ∀ (k : Nat) (l : List UInt8),∀ y∈Lib.splitK c.data.toList 0 k l,y.length≤l.length:=by
       intro k
       induction k with
       | zero=>intro l y hy; simp [Lib.splitK] at hy; rw [hy]; exact Nat.le_refl _
       | succ k ih =>
        intro l y hy
        unfold Lib.splitK at hy
        split at hy
        ·rw [List.mem_singleton.1 hy]; exact Nat.le_refl _
        ·rcases List.mem_cons.1 hy with rfl | hy
         ·simp
          omega
         ·have:=ih _ _ hy; simp at this; omega
      have h3:=h2 _ _ _ h1
      have h4:=hh.1
      have e1 : s.size = s.data.toList.length:=Lib.size_eq _
      have e2 : x.size = x.data.toList.length:=Lib.size_eq _
      omega
   ·cases hg
  ·cases hg
theorem R5 [B : Bs] {P : Program} {f0 : FuncId} (hc : ∀ (s : ByteArray) (w : World),jt w→s.size≤9223372036854775807 →
  Calls P f0 #[.string s] w fun e w'=>e = .returned (.tuple #[.int .i64 (((cr s.data.toList).getD 0 : Nat) : Int),.bool (cr s.data.toList).isSome])∧Below w.heap.size w w') : (fL f0 yC).Sound P :=
 yz fun xs r hg w zl zb cs hx hA hs=>by
  unfold yC at hg
  split at hg
  ·rename_i s
   split at hg
   ·rename_i hh
    cases hg
    obtain rfl:=Sk hx
    refine (hc s w hs hh).mono fun e w' ⟨he,hw⟩=>?_
    refine ⟨vj [.int .i64 (((cr s.data.toList).getD 0 : Nat) : Int),.bool (cr s.data.toList).isSome],?_,?_,hw,FG fun x hx=>?_⟩
    ·rw [he,HX]; rfl
    ·rw [HW]; cases cr s.data.toList <;> rfl
    ·simp only [List.mem_cons,List.not_mem_nil,or_false] at hx
     rcases hx with rfl | rfl
     ·exact ⟨PU,trivial,fun _ _ h=>h⟩
     ·exact ⟨FE,trivial,fun _ _ h=>h⟩
   ·cases hg
  ·cases hg
theorem Q9 [B : Bs] {P : Program} {f0 : FuncId} (htab : Lib.TabIs P B.W0 "internal/strconv.uint64pow10" .u64 Lib.pow10Tab) (hc : ∀ (n : Int),-9223372036854775808≤n→n≤9223372036854775807→∀ w,Lib.TabIs P w "internal/strconv.uint64pow10" .u64 Lib.pow10Tab →
  Calls P f0 #[.int .i64 n] w fun e w'=>e = .returned (.string ⟨(Lib.itoa n).toArray⟩)∧∃ k os,w' = Sort.grow (w.drewN k) os) : (jj f0 tg).Sound P :=
 P1 fun xs r h w hw=>by
  unfold tg at h
  split at h
  ·rename_i n
   split at h
   ·rename_i F4
    cases h
    exact hc n F4.1 F4.2 w (TabIs.same htab hw)
   ·cases h
  ·cases h
end M
namespace Go.Proofs
open Go.RowKit
theorem TP {P : Program} {w w' : World} {n : String} {k : IntKind} {zs : List Int} (h : Lib.TabIs P w n k zs) (hw : Below w.heap.size w w') : Lib.TabIs P w' n k zs:=by
 unfold Lib.TabIs World.var? at h ⊢
 cases hg : P.globalNamed n with
 | none=>rw [hg] at h; cases h
 | some g =>
  rw [hg] at h
  simp only [Option.bind_some] at h ⊢
  have hlt : g < w.heap.size:=by
   rcases Nat.lt_or_ge g w.heap.size with h' | h'
   ·exact h'
   ·rw [Array.getElem?_eq_none h'] at h; cases h
  rw [hw.block g hlt]
  exact h
theorem Ib [B : M.Bs] {P : Program} {w : World} {n : String} {cs : Array Value} (h : B.W0.var? P n = some cs) (hw : M.jt w) : w.var? P n = some cs:=by
 unfold World.var? at h ⊢
 cases hg : P.globalNamed n with
 | none=>rw [hg] at h; cases h
 | some g =>
  rw [hg] at h
  simp only [Option.bind_some] at h ⊢
  have hlt : g < B.W0.heap.size:=by
   rcases Nat.lt_or_ge g B.W0.heap.size with h' | h'
   ·exact h'
   ·rw [Array.getElem?_eq_none h'] at h; cases h
  rw [hw g hlt]
  exact h
theorem P2 (w : World) (k : Nat) (os : Array Obj) : Below w.heap.size w (Sort.grow (w.drewN k) os) :=
 ⟨rfl,rfl,rfl,by simp [Sort.grow,World.drewN],fun b hb=>by show (w.heap ++ os)[b]? = w.heap[b]?; exact Array.getElem?_append_left hb⟩
def jR (v : Int) (l : List UInt8) : Bool:=decide (0≤v∧v≤1000000∧Lib.itoa v = l)
def qC (v : Int) (l : List UInt8) : Int:=if jR v l = true then v else 0
theorem R3 {P : Program} {f a : FuncId} {s : ByteArray} {w : World} (hmax : s.size≤9223372036854775807)
  (QC : 7 < s.size→Calls P f #[.string s] w fun e w'=>e = .returned (.tuple #[.int .i64 0,.bool false])∧w' = w)
  (hok : ¬ 7 < s.size→∀ v,Lib.atoiAll s.data.toList = .ok v→Calls P f #[.string s] w fun e w'=>e = .returned (.tuple #[.int .i64 (qC v s.data.toList),.bool (jR v s.data.toList)])∧Below w.heap.size w w')
  (Qi : ¬ 7 < s.size→(∀ v,Lib.atoiAll s.data.toList≠.ok v)→Calls P f #[.string s] w fun e w'=>e = .returned (.tuple #[.int .i64 0,.bool false])∧Below w.heap.size w w') :
  Calls P f #[.string s] w fun e w'=>e = .returned (.tuple #[.int .i64 (((M.cr s.data.toList).getD 0 : Nat) : Int),.bool (M.cr s.data.toList).isSome])∧Below w.heap.size w w':=by
 have hl : s.size = s.data.toList.length:=Lib.size_eq _
 by_cases h : 7 < s.size
 ·rw [M.GQ _ (by omega)]
  exact (QC h).mono fun e w' ⟨he,hw⟩=>⟨he,hw ▸ Below.refl _ _⟩
 by_cases hv : ∃ v,Lib.atoiAll s.data.toList = .ok v
 ·obtain ⟨v,hv⟩:=hv
  rw [← M.R6 _ _ hv]
  refine (hok h v hv).mono fun e w' ⟨he,hw⟩=>⟨?_,hw⟩
  rw [he]
  by_cases hb : jR v s.data.toList = true
  ·have hb':=hb
   unfold jR at hb'
   rw [decide_eq_true_eq] at hb'
   rw [qC,if_pos hb,hb,if_pos hb']
   simp; omega
  ·have hb':=hb
   unfold jR at hb'
   rw [decide_eq_true_eq] at hb'
   rw [qC,if_neg hb,if_neg hb']
   simp [hb]
 ·have di : ∀ v,Lib.atoiAll s.data.toList≠.ok v:=fun v e=>hv ⟨v,e⟩
  rw [M.R8 _ di]
  exact Qi h di
theorem ZX {H : Type} {enc : TypeId×Value→H} {a : Assume} {C : Checked} {os : Os} {f : FuncId} {fn : Func} {s : ChangeSpec} {conds : List PathCond} {apart fresh handsOn again : Bool} {X : World→Array Value→Prop}
  (hX : ∀ (w w' : World) (args : Array Value),w.heap = w'.heap→X w args→X w' args)
  (own : ownKnob C.prog.godebug = none) (started : os.Started) (noInit : C.prog.inits.idxOf? f = none) (hfn : C.prog.funcs[f]? = some fn)
  (witness : ∃ (w : World) (tape : Tape) (i : Input),w.os = os∧(w.forCall tape i).Shaped C.prog∧i.vars = []∧Input.okWide C.prog (w.forCall tape i) .any w.heap.size f i ∧
   ((s.pre enc C.prog fn conds apart (w.forCall tape i).memory i.args∧X (w.forCall tape i).memory i.args)∧sizedMet enc C.prog fn (OpenSpec.ofChange s) apart (w.forCall tape i).memory i.args)∧a.holds C.prog (lone (Frame.enter C.prog f i.args .normal) [] (w.forCall tape i)))
  (contract : ∀ (W : World) (base : Nat) (args : Array Value) (ds gs : List (DataW H)) (before : List MemPlace),
   (∀ (j : Nat) t v,fn.params[j]? = some t→args[j]? = some v→Value.okWide C.prog W .any base t v) →
   DataW.Whole enc C.prog fn.params.toList s.vars apart W args.toList ds gs before →
   conds.all (PathCond.test C.prog ⟨fn.params.toList,ds,s.plain.varTypes C.prog,gs⟩) = true →
   (DataW.weightsEach C.prog (fn.params.toList ++ s.plain.varTypes C.prog) (ds ++ gs)).all (·≤reachBytes) = true→X W args →
   W.ShapedOpen C.prog →
   a.holds C.prog (lone (Frame.enter C.prog f args .normal) [] W) →
   Calls C.prog f args W fun e W'=>∃ v,e = .returned v∧s.post enc C.prog fn apart fresh handsOn again W args v W') :
  ReturnsInHanded a C os f .any (fun w args=>(s.pre enc C.prog fn conds apart w args∧X w args)∧sizedMet enc C.prog fn (OpenSpec.ofChange s) apart w args) (s.post enc C.prog fn apart fresh handsOn again):=by
 refine returnsInHanded_of_calls own started noInit witness ?_
 intro w tape i _ hsh _ hok hpre hholds
 obtain ⟨_,_,_,fn',Qu,_,_,_,_,hval⟩:=hok
 have e : fn' = fn:=Option.some.inj (Qu.symm.trans hfn)
 subst e
 obtain ⟨⟨⟨ds,gs,before,hw,hc⟩,hx⟩,hz⟩:=hpre
 have hw':=DataW.Whole.of_heap (w':=w.forCall tape i) (by rfl) hw
 refine (contract (w.forCall tape i) w.heap.size i.args ds gs before hval hw' hc (hz.weights hw) (hX _ _ _ (by rfl) hx) hsh hholds).mono fun e W' ⟨v,he,hp⟩=>?_
 subst he
 exact ChangeSpec.post_blind hp
end Go.Proofs
namespace M
open Go Go.RowKit
theorem WN (s c : ah) : (Lib.trimPrefix s c).length≤s.length:=by
 unfold Lib.trimPrefix
 split
 ·simp
 ·exact Nat.le_refl _
theorem Mm [B : Bs] {P : Program} {f0 : FuncId} (hc : ∀ (s p : ByteArray) (w : World),
  Calls P f0 #[.string s,.string p] w fun e w'=>e = .returned (.tuple #[.string ⟨(Lib.trimPrefix s.data.toList p.data.toList).toArray⟩,.bool (Lib.hasPrefix s.data.toList p.data.toList)])∧w' = w) : (fL f0 vY).Sound P :=
 yz fun xs r hg w zl zb cs hx hA hs=>by
  unfold vY at hg
  split at hg
  ·rename_i s c
   split at hg
   ·rename_i hh
    cases hg
    obtain rfl:=DA hx
    have hl:=WN s.data.toList c.data.toList
    refine (hc s c w).mono fun e w' ⟨he,hw⟩=>?_
    subst hw
    refine ⟨vj [.str ⟨(Lib.trimPrefix s.data.toList c.data.toList).toArray⟩,.bool (Lib.hasPrefix s.data.toList c.data.toList)],?_,?_,Below.refl _ _,FG fun x hx=>?_⟩
    ·rw [he,HX]; rfl
    ·rw [HW]; rfl
    ·have e1 : s.size = s.data.toList.length:=Lib.size_eq _
     simp only [List.mem_cons,List.not_mem_nil,or_false] at hx
     rcases hx with rfl | rfl
     ·exact ⟨FF (by simp only [ByteArray.size,List.size_toArray]; omega),trivial,fun _ _ h=>h⟩
     ·exact ⟨FE,trivial,fun _ _ h=>h⟩
   ·cases hg
  ·cases hg
end M
namespace M
open Go Go.RowKit
end M
namespace M
open Go
end M
