/- A machine of values for loaded Go functions, sound for the calculus of calls; part 3; no conditions. -/
import Derived.Test.YtkpkgfollnfhcaaGreatDoorMb
import Derived.Sort.Grow
import Derived.Deep.Draws
import Derived.Lib.LaidTab
import Derived.MakeChecks
import Derived.Laws.BitsLemmas
import Derived.ChangeArms
import Derived.ChangeReads
import Derived.ChangeOld
import Derived.ChangeShapes
import Derived.SizedLaws
import Derived.RowKit
import Derived.Below
import Derived.Lib.ItoaNum
import Derived.Lib.TrimByte
import Derived.Lib.AtoiAllCases
import Derived.Lib.SplitLaws
import Derived.Lib.Join
import Derived.Lib.IndexMore
import Derived.HandedShaped
import Derived.Lib.Strings
import Derived.Lib.Slices
import Derived.Lib.Walk
import Derived.Stop.LaidErr
set_option linter.unusedSectionVars false
set_option linter.unusedVariables false
set_option linter.unusedSimpArgs false
namespace M
open Go
section
variable {C C' : bE} {ok : FuncId→Bool}
theorem Tb {C : bE} {d : Option Nat} {s s' : ag} {f : FuncId} {xs : List X} (h : kX d s (C f xs) = some s') : ∃ o,C f xs = some o∧∀ C' : bE,C' f xs = some o→kX d s (C' f xs) = some s':=by
 cases ho : C f xs with
 | none=>rw [ho] at h; cases h
 | some o=>rw [ho] at h; exact ⟨o,rfl,fun C' h'=>by rw [h']; exact h⟩
theorem Ta {C : bE} {d : Option Nat} {as : List (AV×PM)} {back : qy} {s' : ag} {f : FuncId} {xs : List X} (h : kW d as back (C f xs) = some s') : ∃ o,C f xs = some o∧∀ C' : bE,C' f xs = some o→kW d as back (C' f xs) = some s':=by
 cases ho : C f xs with
 | none=>rw [ho] at h; cases h
 | some o=>rw [ho] at h; exact ⟨o,rfl,fun C' h'=>by rw [h']; exact h⟩
theorem EL {f : FuncId} {d : Option Nat} {as : List (AV×PM)} {fv : Option AV} {s s' : ag} (h : lI C f d as fv s = some s') :
  ∃ xs o,C f xs = some o∧∀ C' : bE,C' f xs = some o→lI C' f d as fv s = some s':=by
 unfold lI at h ⊢
 by_cases hb : X.bare.eP (bt as s).1 = true
 ·simp only [if_pos hb] at h ⊢
  cases hm : cz as with
  | none =>
   simp only [hm] at h ⊢
   by_cases hc : oF (bt as s).2 fv f = true
   ·simp only [if_pos hc] at h ⊢
    obtain ⟨o,h1,h2⟩:=Tb h
    exact ⟨_,o,h1,h2⟩
   ·simp only [if_neg hc] at h; cases h
  | some xn =>
   obtain ⟨x,n⟩:=xn
   simp only [hm] at h ⊢
   unfold lJ at h ⊢
   split at h
   ·split at h
    ·rename_i y back h1 h2
     simp only [h1,if_pos h2]
     obtain ⟨o,h1,h2⟩:=Ta h
     exact ⟨_,o,h1,h2⟩
    ·cases h
   ·cases h
 ·simp only [if_neg hb] at h; cases h
theorem Fj {o : bA} {s s' : ag} (h : bO C ok o s = some s') : (∀ C' : bE,bO C' ok o s = some s')∨∃ f xs r,C f xs = some r∧∀ C' : bE,C' f xs = some r→bO C' ok o s = some s':=by
 cases o with
 | call d f as =>
  obtain ⟨xs,o,h1,h2⟩:=EL (C:=C) h
  exact .inr ⟨f,xs,o,h1,h2⟩
 | iV d x as =>
  simp only [bO] at h ⊢
  split at h
  ·rename_i f caps hf
   split at h
   ·rename_i hok
    obtain ⟨xs,o,h1,h2⟩:=EL (C:=C) h
    refine .inr ⟨f,xs,o,h1,fun C' h'=>?_⟩
    simp only [if_pos hok]
    exact h2 C' h'
   ·cases h
  ·cases h
 | gO d f x as =>
  simp only [bO] at h ⊢
  split at h
  ·rename_i cs h1
   split at h
   ·rename_i h2
    simp only [if_pos h2]
    refine .inr ?_
    cases ho : C f (.agg (bu cs s).1 :: dz (bu cs s).2 .dead as (as.map fun _=>.dead)) with
    | none=>rw [ho] at h; cases h
    | some r=>rw [ho] at h; exact ⟨f,_,r,ho,fun C' h'=>by rw [h']; exact h⟩
   ·cases h
  ·cases h
 | _=>exact .inl fun _=>h
theorem Ff {g : G} {s s' : ag} (h : eG C ok g s = some s') : (∀ C' : bE,eG C' ok g s = some s')∨∃ f xs r,C f xs = some r∧∀ C' : bE,C' f xs = some r→eG C' ok g s = some s':=by
 obtain ⟨gg,o⟩:=g
 cases gg with
 | none=>exact Fj h
 | some tb =>
  obtain ⟨t,b⟩:=tb
  simp only [eG] at h ⊢
  split at h
  ·rename_i v hv
   split at h
   ·rename_i h1
    simp only [hv,if_pos h1]
    exact Fj h
   ·rename_i h1
    simp only [hv,if_neg h1]
    exact .inl fun _=>h
  ·exact .inl fun _=>h
  ·cases h
def bE.le (C C' : bE) : Prop:=∀ f xs o,C f xs = some o→C' f xs = some o
theorem Fh (hl : C.le C') {g : G} {s s' : ag} (h : eG C ok g s = some s') : eG C' ok g s = some s':=by
 rcases Ff h with h | ⟨f,xs,r,h1,h2⟩
 ·exact h _
 ·exact h2 _ (hl _ _ _ h1)
theorem Ap (hl : C.le C') : ∀ {l : List G} {s s' : ag},fS C ok l s = some s'→fS C' ok l s = some s'
 | [],_,_,h=>h
 | g :: l,s,s',h=>by
  simp only [fS] at h ⊢
  cases h1 : eG C ok g s with
  | none=>rw [h1] at h; cases h
  | some s1=>rw [h1] at h; rw [Fh hl h1]; exact Ap hl h
theorem oI (hl : C.le C') : ∀ {t : DT} {s s' : ag},eD C ok t s = some s'→eD C' ok t s = some s'
 | .nil _,_,_,h=>h
 | .step _ g l,s,s',h=>by
  simp only [eD] at h ⊢
  cases h1 : eG C ok g s with
  | none=>rw [h1] at h; cases h
  | some s1=>rw [h1] at h; rw [Fh hl h1]; exact oI hl h
 | .alt a b,s,s',h=>by
  simp only [eD] at h ⊢
  unfold same at h
  split at h
  ·rename_i x y hx hy
   rw [oI hl hx,oI hl hy]
   exact h
  ·cases h
 | .kp _ t,s,s',h=>oI (t:=t) hl h
theorem zo {k k' : ag→bM} {r r' : bM} {o : Ex×ag} (h : cV k r = some o) (hr : ∀ x,r = some x→r' = some x) (hk : ∀ s,k s = some o→k' s = some o) : cV k' r' = some o:=by
 unfold cV at h
 split at h
 ·rw [hr _ rfl]; exact hk _ h
 ·rw [hr _ rfl]; exact h
 ·rw [hr _ rfl]; exact h
 ·cases h
theorem o7 {f f' : ag→bM} (hf : ∀ s o,f s = some o→f' s = some o) : ∀ {n m : Nat} {s : ag} {o : Ex×ag},n≤m→iter f n s = some o→iter f' m s = some o
 | 0,_,_,_,_,h=>by cases h
 | n + 1,0,_,_,hn,_=>by omega
 | n + 1,m + 1,s,o,hn,h=>zo h (hf s) fun s' h'=>o7 hf (by omega) h'
end
noncomputable def aK (f : ag→bM) (s : ag) : bM:=by
 classical exact if h : ∃ o : Ex×ag,∃ n,iter f n s = some o then some (Classical.choose h) else none
theorem tw {f : ag→bM} {s : ag} {o : Ex×ag} {n : Nat} (h : iter f n s = some o) : aK f s = some o:=by
 have hh : ∃ o : Ex×ag,∃ n,iter f n s = some o:=⟨o,n,h⟩
 unfold aK
 rw [dif_pos hh]
 obtain ⟨m,hm⟩:=Classical.choose_spec hh
 have h1:=o7 (fun _ _ h=>h) (Nat.le_max_left m n) hm
 have h2:=o7 (fun _ _ h=>h) (Nat.le_max_right m n) h
 rw [h1] at h2
 exact h2
theorem Ct {f : ag→bM} {s : ag} {o : Ex×ag} (h : aK f s = some o) : ∃ n,iter f n s = some o:=by
 unfold aK at h
 split at h
 ·rename_i hh
  cases h
  exact Classical.choose_spec hh
 ·cases h
theorem CI {α : Type} {a b : Option α} (h1 : ∀ x,a = some x→b = some x) (h2 : ∀ x,b = some x→a = some x) : a = b:=by
 cases a with
 | none=>cases b with
  | none=>rfl
  | some y=>exact h2 y rfl
 | some x=>exact (h1 x rfl).symm
theorem gZ (f : ag→bM) (s : ag) : aK f s = cV (aK f) (f s):=by
 refine CI (fun o h=>?_) fun o h=>?_
 ·obtain ⟨n,hn⟩:=Ct h
  cases n with
  | zero=>cases hn
  | succ n=>exact zo hn (fun _ h=>h) fun s' h'=>tw h'
 ·unfold cV at h
  split at h
  ·rename_i s' hs
   obtain ⟨n,hn⟩:=Ct h
   refine tw (n:=n + 1) ?_
   simp only [iter,hs,cV]; exact hn
  ·rename_i hs; refine tw (n:=1) ?_; simp only [iter,hs,cV]; exact h
  ·rename_i hs; refine tw (n:=1) ?_; simp only [iter,hs,cV]; exact h
  ·cases h
noncomputable def ai (C : bE) (ok : FuncId→Bool) : A→ag→bM
 | .skip,s=>some (.normal,s)
 | .ret,s=>some (.ret,s)
 | .exit id,s=>some (.exit id,s)
 | .ops l,s=>eE (fS C ok l s)
 | .draw t,s=>eE (eD C ok t s)
 | .seq a b,s=>cV (ai C ok b) (ai C ok a s)
 | .cond c a b,s=>match ak s c with
  | .bool t=>if t = true then ai C ok a s else ai C ok b s
  | _=>none
 | .block id b,s=>gN id (ai C ok b s)
 | .loop b,s=>aK (ai C ok b) s
 | .pk ks b,s=>ic ks (ai C ok b s)
theorem ye {a b : Option ag} (h : ∀ s,a = some s→b = some s) {o : Ex×ag} (ho : eE a = some o) : eE b = some o:=by
 unfold eE at ho
 split at ho
 ·rw [h _ rfl]; exact ho
 ·cases ho
theorem En {id : Nat} {a b : bM} (h : ∀ s,a = some s→b = some s) {o : Ex×ag} (ho : gN id a = some o) : gN id b = some o:=by
 cases a with
 | none=>cases ho
 | some x=>rw [h _ rfl]; exact ho
theorem Hw {ks : List Nat} {a b : bM} (h : ∀ s,a = some s→b = some s) {o : Ex×ag} (ho : ic ks a = some o) : ic ks b = some o:=by
 cases a with
 | none=>cases ho
 | some x=>rw [h _ rfl]; exact ho
theorem MS {C C' : bE} {ok : FuncId→Bool} (hl : C.le C') {N : Nat} : ∀ {t : A} {s : ag} {o : Ex×ag},eA C ok N t s = some o→ai C' ok t s = some o:=by
 intro t
 induction t with
 | skip=>intro s o h; exact h
 | ret=>intro s o h; exact h
 | exit id=>intro s o h; exact h
 | ops l=>intro s o h; exact ye (fun s' h'=>Ap hl h') h
 | draw l=>intro s o h; exact ye (fun s' h'=>oI hl h') h
 | seq a b ez ga=>intro s o h; exact zo h (fun x hx=>ez hx) fun s' h'=>ga h'
 | cond c a b ez ga =>
  intro s o h
  simp only [eA] at h
  simp only [ai]
  split at h
  ·rename_i t ht
   try rw [ht]
   cases t with
   | true=>exact ez h
   | false=>exact ga h
  ·cases h
 | block id b ih=>intro s o h; exact En (fun x hx=>ih hx) h
 | loop b ih=>intro s o h; exact tw (o7 (fun s o h=>ih h) (Nat.le_refl _) h)
 | pk ks b ih=>intro s o h; exact Hw (fun x hx=>ih hx) h
theorem MT {C C' : bE} {ok : FuncId→Bool} (hl : C.le C') {N N' : Nat} (hN : N≤N') : ∀ {t : A} {s : ag} {o : Ex×ag},eA C ok N t s = some o→eA C' ok N' t s = some o:=by
 intro t
 induction t with
 | skip=>intro s o h; exact h
 | ret=>intro s o h; exact h
 | exit id=>intro s o h; exact h
 | ops l=>intro s o h; exact ye (fun s' h'=>Ap hl h') h
 | draw l=>intro s o h; exact ye (fun s' h'=>oI hl h') h
 | seq a b ez ga=>intro s o h; exact zo h (fun x hx=>ez hx) fun s' h'=>ga h'
 | cond c a b ez ga =>
  intro s o h
  simp only [eA] at h ⊢
  split at h
  ·rename_i t ht
   cases t with
   | true=>exact ez h
   | false=>exact ga h
  ·cases h
 | block id b ih=>intro s o h; exact En (fun x hx=>ih hx) h
 | loop b ih=>intro s o h; exact o7 (fun s o h=>ih h) hN h
 | pk ks b ih=>intro s o h; exact Hw (fun x hx=>ih hx) h
theorem vL {L : bE} {T : fu} : ∀ {n m : Nat},n≤m→(exec L T n).le (exec L T m)
 | 0,_,_,_,_,_,h=>by cases h
 | n + 1,0,hn,_,_,_,_=>by omega
 | n + 1,m + 1,hn,f,xs,o,h=>by
  have hnm : n≤m:=by omega
  simp only [exec] at h ⊢
  split at h
  ·rename_i F hF
   unfold eF at h ⊢
   split at h
   ·rename_i hl
    rw [if_pos hl]
    cases hr : eA (exec L T n) (aj T) n F.body (iU xs) with
    | none=>rw [hr] at h; cases h
    | some r=>rw [hr] at h; rw [MT (vL hnm) hnm hr]; exact h
   ·cases h
  ·exact h
noncomputable def ev (L : bE) (T : fu) : bE:=fun f xs=>by
 classical exact if h : ∃ o : Out,∃ n,exec L T n f xs = some o then some (Classical.choose h) else none
theorem Ar {L : bE} {T : fu} {f : FuncId} {xs : List X} {o : Out} {n : Nat} (h : exec L T n f xs = some o) : ev L T f xs = some o:=by
 have hh : ∃ o : Out,∃ n,exec L T n f xs = some o:=⟨o,n,h⟩
 unfold ev
 rw [dif_pos hh]
 obtain ⟨m,hm⟩:=Classical.choose_spec hh
 have h1:=vL (Nat.le_max_left m n) f xs _ hm
 have h2:=vL (Nat.le_max_right m n) f xs _ h
 rw [h1] at h2
 exact h2
theorem vJ {L : bE} {T : fu} {f : FuncId} {xs : List X} {o : Out} (h : ev L T f xs = some o) : ∃ n,exec L T n f xs = some o:=by
 unfold ev at h
 split at h
 ·rename_i hh
  cases h
  exact Classical.choose_spec hh
 ·cases h
theorem M1 (L : bE) (T : fu) (n : Nat) : (exec L T n).le (ev L T):=fun _ _ _ h=>Ar h
theorem YB [Bs] {P : Program} {L : bE} {T : fu} (hL : L.Sound P) (hT : T.Ok P) : (ev L T).Sound P:=fun f xs o h=>by
 obtain ⟨n,hn⟩:=vJ h
 exact Fv hL hT n f xs o hn
section
variable {L : bE} {T : fu}
theorem Fg {g : G} {s s' : ag} (h : eG (ev L T) (aj T) g s = some s') : ∃ n,∀ m,n≤m→eG (exec L T m) (aj T) g s = some s':=by
 rcases Ff h with h | ⟨f,xs,r,h1,h2⟩
 ·exact ⟨0,fun m _=>h _⟩
 ·obtain ⟨n,hn⟩:=vJ h1
  exact ⟨n,fun m hm=>h2 _ (vL hm f xs r hn)⟩
theorem Fm : ∀ {l : List G} {s s' : ag},fS (ev L T) (aj T) l s = some s'→∃ n,∀ m,n≤m→fS (exec L T m) (aj T) l s = some s'
 | [],s,s',h=>⟨0,fun m _=>h⟩
 | g :: l,s,s',h=>by
  simp only [fS] at h ⊢
  cases h1 : eG (ev L T) (aj T) g s with
  | none=>rw [h1] at h; cases h
  | some s1 =>
   rw [h1] at h
   obtain ⟨n1,eV⟩:=Fg h1
   obtain ⟨n2,hn2⟩:=Fm (l:=l) h
   exact ⟨max n1 n2,fun m hm=>by rw [eV m (by omega)]; exact hn2 m (by omega)⟩
theorem qT : ∀ {l : DT} {s s' : ag},eD (ev L T) (aj T) l s = some s'→∃ n,∀ m,n≤m→eD (exec L T m) (aj T) l s = some s'
 | .nil _,s,s',h=>⟨0,fun m _=>h⟩
 | .step _ g l,s,s',h=>by
  simp only [eD] at h ⊢
  cases h1 : eG (ev L T) (aj T) g s with
  | none=>rw [h1] at h; cases h
  | some s1 =>
   rw [h1] at h
   obtain ⟨n1,eV⟩:=Fg h1
   obtain ⟨n2,hn2⟩:=qT (l:=l) h
   exact ⟨max n1 n2,fun m hm=>by rw [eV m (by omega)]; exact hn2 m (by omega)⟩
 | .alt a b,s,s',h=>by
  simp only [eD] at h ⊢
  unfold same at h
  split at h
  ·rename_i x y hx hy
   obtain ⟨n1,eV⟩:=qT hx
   obtain ⟨n2,hn2⟩:=qT hy
   exact ⟨max n1 n2,fun m hm=>by rw [eV m (by omega),hn2 m (by omega)]; exact h⟩
  ·cases h
 | .kp _ t,s,s',h=>qT (l:=t) h
theorem Hf {a : Option ag} {b : Nat→Option ag} (h : ∀ s,a = some s→∃ n,∀ m,n≤m→b m = some s) {o : Ex×ag} (ho : eE a = some o) : ∃ n,∀ m,n≤m→eE (b m) = some o:=by
 cases a with
 | none=>cases ho
 | some s =>
  obtain ⟨n,hn⟩:=h s rfl
  exact ⟨n,fun m hm=>by rw [hn m hm]; exact ho⟩
theorem MZ : ∀ {t : A} {s : ag} {o : Ex×ag},ai (ev L T) (aj T) t s = some o→∃ n,∀ m,n≤m→eA (exec L T m) (aj T) m t s = some o:=by
 intro t
 induction t with
 | skip=>intro s o h; exact ⟨0,fun m _=>h⟩
 | ret=>intro s o h; exact ⟨0,fun m _=>h⟩
 | exit id=>intro s o h; exact ⟨0,fun m _=>h⟩
 | ops l=>intro s o h; exact Hf (fun s h=>Fm h) h
 | draw l=>intro s o h; exact Hf (fun s h=>qT h) h
 | seq a b ez ga =>
  intro s o h
  simp only [ai] at h
  simp only [eA]
  cases hr : ai (ev L T) (aj T) a s with
  | none=>rw [hr] at h; cases h
  | some r =>
   rw [hr] at h
   obtain ⟨n1,eV⟩:=ez hr
   obtain ⟨e,s1⟩:=r
   cases e with
   | normal =>
    obtain ⟨n2,hn2⟩:=ga (s:=s1) h
    exact ⟨max n1 n2,fun m hm=>by rw [eV m (by omega)]; exact hn2 m (by omega)⟩
   | exit i=>exact ⟨n1,fun m hm=>by rw [eV m hm]; exact h⟩
   | ret=>exact ⟨n1,fun m hm=>by rw [eV m hm]; exact h⟩
 | cond c a b ez ga =>
  intro s o h
  simp only [ai] at h
  simp only [eA]
  split at h
  ·rename_i t ht
   try rw [ht]
   cases t with
   | true=>exact ez h
   | false=>exact ga h
  ·cases h
 | block id b ih =>
  intro s o h
  simp only [ai] at h
  simp only [eA]
  cases hr : ai (ev L T) (aj T) b s with
  | none=>rw [hr] at h; cases h
  | some r =>
   rw [hr] at h
   obtain ⟨n1,eV⟩:=ih hr
   exact ⟨n1,fun m hm=>by rw [eV m hm]; exact h⟩
 | pk ks b ih =>
  intro s o h
  simp only [ai] at h
  simp only [eA]
  cases hr : ai (ev L T) (aj T) b s with
  | none=>rw [hr] at h; cases h
  | some r =>
   rw [hr] at h
   obtain ⟨n1,eV⟩:=ih hr
   exact ⟨n1,fun m hm=>by rw [eV m hm]; exact h⟩
 | loop b ih =>
  intro s o h
  simp only [ai] at h
  obtain ⟨n,hn⟩:=Ct h
  have go : ∀ (n : Nat) (s : ag),iter (ai (ev L T) (aj T) b) n s = some o→∃ k,∀ m,k≤m→iter (eA (exec L T m) (aj T) m b) n s = some o:=by
   intro n
   induction n with
   | zero=>intro s h; cases h
   | succ n ihn =>
    intro s h
    simp only [iter] at h ⊢
    cases hr : ai (ev L T) (aj T) b s with
    | none=>rw [hr] at h; cases h
    | some r =>
     rw [hr] at h
     obtain ⟨n1,eV⟩:=ih hr
     obtain ⟨e,s1⟩:=r
     cases e with
     | normal =>
      obtain ⟨n2,hn2⟩:=ihn s1 h
      exact ⟨max n1 n2,fun m hm=>by rw [eV m (by omega)]; exact hn2 m (by omega)⟩
     | exit i=>exact ⟨n1,fun m hm=>by rw [eV m hm]; exact h⟩
     | ret=>exact ⟨n1,fun m hm=>by rw [eV m hm]; exact h⟩
  obtain ⟨k,hk⟩:=go n s hn
  refine ⟨max k n,fun m hm=>?_⟩
  simp only [eA]
  exact o7 (fun _ _ h=>h) (by omega) (hk m (by omega))
noncomputable def vI (L : bE) (T : fu) (F : Fn) (xs : List X) : Option Out :=
 if xs.length = F.n then fin F (ai (ev L T) (aj T) F.body (iU xs)) else none
theorem M0 {f : FuncId} {F : Fn} (hF : T f = some F) (xs : List X) : ev L T f xs = vI L T F xs:=by
 refine CI (fun o h=>?_) fun o h=>?_
 ·obtain ⟨n,hn⟩:=vJ h
  cases n with
  | zero=>cases hn
  | succ n =>
   simp only [exec,hF] at hn
   unfold eF at hn
   unfold vI
   split at hn
   ·rename_i hl
    rw [if_pos hl]
    cases hr : eA (exec L T n) (aj T) n F.body (iU xs) with
    | none=>rw [hr] at hn; cases hn
    | some r=>rw [hr] at hn; rw [MS (M1 L T n) hr]; exact hn
   ·cases hn
 ·unfold vI at h
  split at h
  ·rename_i hl
   cases hr : ai (ev L T) (aj T) F.body (iU xs) with
   | none=>rw [hr] at h; cases h
   | some r =>
    rw [hr] at h
    obtain ⟨n,hn⟩:=MZ hr
    refine Ar (n:=n + 1) ?_
    simp only [exec,hF,eF,if_pos hl,hn n (Nat.le_refl n)]
    exact h
  ·cases h
theorem kr {f : FuncId} (hF : T f = none) (xs : List X) : ev L T f xs = L f xs:=by
 refine CI (fun o h=>?_) fun o h=>?_
 ·obtain ⟨n,hn⟩:=vJ h
  cases n with
  | zero=>cases hn
  | succ n=>simpa only [exec,hF] using hn
 ·refine Ar (n:=1) ?_
  simpa only [exec,hF] using h
end
end M
namespace M
open Go
section
variable {C : bE} {ok : FuncId→Bool} {T : fu}
@[simp] theorem YA (s : ag) : ai C ok .skip s = some (.normal,s):=rfl
@[simp] theorem Yy (s : ag) : ai C ok .ret s = some (.ret,s):=rfl
@[simp] theorem Yu (i : Nat) (s : ag) : ai C ok (.exit i) s = some (.exit i,s):=rfl
@[simp] theorem Yw (l : List G) (s : ag) : ai C ok (.ops l) s = eE (fS C ok l s):=rfl
@[simp] theorem Yt (t : DT) (s : ag) : ai C ok (.draw t) s = eE (eD C ok t s):=rfl
@[simp] theorem Yz (a b : A) (s : ag) : ai C ok (.seq a b) s = cV (ai C ok b) (ai C ok a s):=rfl
@[simp] theorem Yr (i : Nat) (b : A) (s : ag) : ai C ok (.block i b) s = gN i (ai C ok b s):=rfl
@[simp] theorem Yv (b : A) (s : ag) : ai C ok (.loop b) s = aK (ai C ok b) s:=rfl
@[simp] theorem Yx (ks : List Nat) (b : A) (s : ag) : ai C ok (.pk ks b) s = ic ks (ai C ok b s):=rfl
noncomputable def E5 (C : bE) (ok : FuncId→Bool) (a b : A) (s : ag) : X→bM
 | .bool t=>if t = true then ai C ok a s else ai C ok b s
 | _=>none
@[simp] theorem Ys (c : AV) (a b : A) (s : ag) : ai C ok (.cond c a b) s = E5 C ok a b s (ak s c):=by
 simp only [ai]; cases ak s c <;> rfl
@[simp] theorem XV (a b : A) (s : ag) (t : Bool) : E5 C ok a b s (.bool t) = if t = true then ai C ok a s else ai C ok b s:=rfl
@[simp] theorem Yp (s : ag) : fS C ok [] s = some s:=rfl
@[simp] theorem Yo (g : G) (l : List G) (s : ag) : fS C ok (g :: l) s = (eG C ok g s).bind (fS C ok l):=rfl
@[simp] theorem Yk (ks : List Nat) (s : ag) : eD C ok (.nil ks) s = some (keep ks s):=rfl
@[simp] theorem Yl (i : Nat) (g : G) (t : DT) (s : ag) : eD C ok (.step i g t) s = (eG C ok g s).bind (eD C ok t):=rfl
@[simp] theorem Yi (a b : DT) (s : ag) : eD C ok (.alt a b) s = same (eD C ok a s) (eD C ok b s):=rfl
@[simp] theorem Yj (ks : List Nat) (t : DT) (s : ag) : eD C ok (.kp ks t) s = eD C ok t (keep ks s):=rfl
@[simp] theorem ZR (s : ag) : same (some s) (some s) = some s:=by
 have : lP s s = true:=by
  induction s with
  | nil=>rfl
  | cons a l ih=>obtain ⟨k,x⟩:=a; simp [lP,X.Fu,ih]
 simp [same,this]
@[simp] theorem W9 (c : Prop) [Decidable c] (a b : Option ag) (f : ag→Option ag) : (if c then a else b).bind f = if c then a.bind f else b.bind f:=by split <;> rfl
def vX (C : bE) (ok : FuncId→Bool) (o : bA) (t : Nat) (b : Bool) (s : ag) : X→Option ag
 | .bool v=>if v = b then bO C ok o ((t,.bool b) :: s) else some (di o.dst (.au []) ((t,.bool (!b)) :: s))
 | .au []=>some (di o.dst (.au []) s)
 | _=>none
@[simp] theorem Ym (o : bA) (s : ag) : eG C ok ⟨none,o⟩ s = bO C ok o s:=rfl
@[simp] theorem Yn (t : Nat) (b : Bool) (o : bA) (s : ag) : eG C ok ⟨some (t,b),o⟩ s = vX C ok o t b s (get s t):=by
 simp only [eG]
 split <;> simp_all [vX]
@[simp] theorem YN (o : bA) (t : Nat) (b v : Bool) (s : ag) : vX C ok o t b s (.bool v) = if v = b then bO C ok o ((t,.bool b) :: s) else some (di o.dst (.au []) ((t,.bool (!b)) :: s)):=rfl
@[simp] theorem YO (o : bA) (t : Nat) (b : Bool) (s : ag) : vX C ok o t b s (.au []) = some (di o.dst (.au []) s):=rfl
@[simp] theorem ZC (s : ag) : eE (some s) = some (.normal,s):=rfl
@[simp] theorem ZB : eE none = none:=rfl
@[simp] theorem ZA (c : Prop) [Decidable c] (a b : Option ag) : eE (if c then a else b) = if c then eE a else eE b:=by split <;> rfl
@[simp] theorem ZW (k : ag→bM) (s : ag) : cV k (some (.normal,s)) = k s:=rfl
@[simp] theorem ZT (k : ag→bM) (i : Nat) (s : ag) : cV k (some (.exit i,s)) = some (.exit i,s):=rfl
@[simp] theorem ZX (k : ag→bM) (s : ag) : cV k (some (.ret,s)) = some (.ret,s):=rfl
@[simp] theorem ZV (k : ag→bM) : cV k none = none:=rfl
@[simp] theorem ZU (k : ag→bM) (c : Prop) [Decidable c] (a b : bM) : cV k (if c then a else b) = if c then cV k a else cV k b:=by split <;> rfl
@[simp] theorem Xd (i : Nat) (s : ag) : gN i (some (.normal,s)) = some (.normal,s):=rfl
@[simp] theorem Xa (i j : Nat) (s : ag) : gN i (some (.exit j,s)) = if j = i then some (.normal,s) else some (.exit j,s):=rfl
@[simp] theorem Xe (i : Nat) (s : ag) : gN i (some (.ret,s)) = some (.ret,s):=rfl
@[simp] theorem Xc (i : Nat) : gN i none = none:=rfl
@[simp] theorem Xb (i : Nat) (c : Prop) [Decidable c] (a b : bM) : gN i (if c then a else b) = if c then gN i a else gN i b:=by split <;> rfl
@[simp] theorem ZL (ks : List Nat) (s : ag) : ic ks (some (.normal,s)) = some (.normal,keep ks s):=rfl
@[simp] theorem ZI (ks : List Nat) (i : Nat) (s : ag) : ic ks (some (.exit i,s)) = some (.exit i,s):=rfl
@[simp] theorem ZM (ks : List Nat) (s : ag) : ic ks (some (.ret,s)) = some (.ret,s):=rfl
@[simp] theorem ZK (ks : List Nat) : ic ks none = none:=rfl
@[simp] theorem ZJ (ks : List Nat) (c : Prop) [Decidable c] (a b : bM) : ic ks (if c then a else b) = if c then ic ks a else ic ks b:=by split <;> rfl
def nv (rs : List RV) (n : Nat) : bM→Option Out
 | some (.exit _,_)=>none
 | some (_,s)=>if X.clean.bG (cA rs s).1 = true∧(cA rs s).1.any X.iK = false then some (n6 (cA rs s).1,kV 0 n (cA rs s).2) else none
 | none=>none
def Av (rs : List RV) (n : Nat) (s : ag) : Option Out:=if X.clean.bG (cA rs s).1 = true∧(cA rs s).1.any X.iK = false then some (n6 (cA rs s).1,kV 0 n (cA rs s).2) else none
theorem az {L : bE} {T : fu} {f : FuncId} {b : A} {rs : List RV} {n : Nat} (h : T f = some ⟨b,rs,n⟩) {xs : List X} (hl : xs.length = n) : ev L T f xs = nv rs n (ai (ev L T) (aj T) b (iU xs)):=by
 rw [M0 h]
 unfold vI
 rw [if_pos hl]
 rfl
@[simp] theorem YM (rs : List RV) (n : Nat) (s : ag) : nv rs n (some (.ret,s)) = Av rs n s:=rfl
@[simp] theorem YL (rs : List RV) (n : Nat) (s : ag) : nv rs n (some (.normal,s)) = Av rs n s:=rfl
@[simp] theorem YK (rs : List RV) (n : Nat) : nv rs n none = none:=rfl
@[simp] theorem YJ (rs : List RV) (n : Nat) (c : Prop) [Decidable c] (a b : bM) : nv rs n (if c then a else b) = if c then nv rs n a else nv rs n b:=by split <;> rfl
@[simp] theorem ZP (d : Option Nat) (s : ag) (r : X) (ps : List X) : kX d s (some (r,ps)) = some (di d r s):=rfl
@[simp] theorem ZO (d : Option Nat) (s : ag) : kX d s none = none:=rfl
@[simp] theorem ZN (d : Option Nat) (s : ag) (c : Prop) [Decidable c] (a b : Option Out) : kX d s (if c then a else b) = if c then kX d s a else kX d s b:=by split <;> rfl
end
attribute [simp] Av bO iU uK uL cA kV post n6 X.iK X.clean X.clean.bG X.clean.aX keep zv vo lI oF
end M
namespace M
open Go
def nq (z bytes : Nat) : A:=(.seq (.pk [0] (.ops [⟨none,.bh 2 .aW (.k (.row .own z []))⟩])) (.seq (.seq (.pk [0,4] (.ops [⟨none,.mv 3 (.t 0)⟩,⟨none,.mE 4 false (.t 3)⟩])) (.pk [0] (.cond (.t 4) (.seq (.pk [2,7] (.ops [⟨none,.bh 2 .aW (.k (.row .own z []))⟩])) .ret) .skip))) (.seq (.pk [2,7] (.ops [⟨none,.lit 5 .mv z []⟩,⟨none,.mv 6 (.t 0)⟩,⟨none,.app 7 .al z bytes (.t 5) (.t 6)⟩,⟨none,.bh 2 .aW (.t 7)⟩])) .ret)))
theorem EY : ∀ {rows : List (List X)},cF rows = true→X.clean.aX rows = true
 | [],_=>rfl
 | e :: l,h=>by
  simp only [cF,Bool.and_eq_true,List.all_eq_true] at h
  have h1 : X.clean.bG e = true:=by
   have h2:=h.1
   clear h
   induction e with
   | nil=>rfl
   | cons x e ih =>
    have hx:=h2 x (List.mem_cons_self ..)
    have he:=ih fun y hy=>h2 y (List.mem_cons_of_mem _ hy)
    cases x <;> simp_all [scalar,X.clean.bG,X.clean]
  simp only [X.clean.aX,h1,EY h.2,Bool.and_self]
theorem Mv [Bs] {P : Program} {f : FuncId} {z bytes : Nat} (hT : Told P f (nq z bytes) [.t 2] 1) {rows : List (List X)} (h1 : rows.length * bytes≤140737488355328) (h2 : cF rows = true) (h4 : eK rows = true∨rows = []) :
  AC P f [.row .af z rows] fun r ps=>r = .row .own z rows∧ps = [.dead]:=by
 refine hT.ac rfl ?_
 have h3:=DE h2
 have h5:=EY h2
 simp [nq,cH,gp,kf,aG,base,Ends,h1,h3,h5]
 intro h6
 rcases h4 with h4 | h4
 ·rw [h4] at h6; cases h6
 ·subst h4; simp
def fR (f0 z bytes : Nat) : bE:=fun f xs=>if f = f0 then (match xs with
 | [.row .af z' rows]=>if z' = z∧rows.length * bytes≤140737488355328∧cF rows = true∧(eK rows = true∨rows = []) then some (.row .own z rows,[.dead]) else none
 | _=>none) else none
theorem vA [Bs] {P : Program} {f0 z bytes : Nat} (hT : Told P f0 (nq z bytes) [.t 2] 1) : (fR f0 z bytes).Sound P:=fun f xs o h=>by
 unfold fR at h
 split at h
 ·rename_i hf
  subst hf
  split at h
  ·split at h
   ·rename_i hc
    obtain ⟨rfl,c1,c2,c3⟩:=hc
    cases h
    exact Mv hT c1 c2 c3
   ·cases h
  ·cases h
 ·cases h
def ek (L L' : bE) : bE:=fun f xs=>match L f xs with
 | some o=>some o
 | none=>L' f xs
theorem mG [Bs] {P : Program} {L L' : bE} (h : L.Sound P) (h' : L'.Sound P) : (ek L L').Sound P:=fun f xs o e=>by
 unfold ek at e
 split at e
 ·rename_i o' e'
  cases e
  exact h f xs _ e'
 ·exact h' f xs _ e
end M
namespace M
open Go
def sv : X→Value
 | .int k n=>.int k n
 | .bool b=>.bool b
 | .str s=>.string s
 | _=>undef
theorem TS {c : C} (h : scalar c.er = true) : c.val = sv c.er:=by
 cases c <;> first | rfl | (simp [C.er,scalar] at h)
def uP : X→Bool
 | .str s=>decide (s.size≤9223372036854775807)
 | x=>scalar x
def gH (f0 : FuncId) (g : List X→Option X) : bE:=fun f xs=>if f = f0 then (match g xs with
 | some r=>if xs.all scalar = true∧uP r = true then some (r,xs.map fun _=>.dead) else none
 | none=>none) else none
end M
namespace M
open Go Go.Sort
def mQ [B : Bs] (w : World) : Prop:=∀ b,b < B.W0.heap.size→w.heap[b]? = B.W0.heap[b]?
theorem J8 [Bs] {P : Program} {f : FuncId} {xs : List X} {r : X} (hx : ∀ x∈xs,scalar x = true) (hr : uP r = true)
  (h : ∀ w,mQ w→Calls P f (xs.map sv).toArray w fun e w'=>e = .returned (sv r)∧∃ k os,w' = grow (w.drewN k) os) : AC P f xs fun r' ps=>r' = r∧ps = xs.map fun _=>.dead:=by
 intro w zl zb cs e hA jE
 have hv : cs.map C.val = xs.map sv:=by
  rw [← e,List.map_map]
  exact List.map_congr_left fun c hc=>TS (hx _ (e ▸ List.mem_map_of_mem hc))
 rw [hv]
 refine (h w fun b hb=>(jE b hb).1).mono fun e' w' ⟨he,k,os,hw⟩=>?_
 subst hw
 have hsz : w.heap.size≤(grow (w.drewN k) os).heap.size:=by simp [grow,World.drewN]
 have hs : ∃ c : C,c.er = r∧c.val = sv r∧c.ok (grow (w.drewN k) os) (Zf zl fun _ _=>False)∧c.bare∧∀ b k,¬ c.fp b k:=by
  cases r with
  | int k n=>exact ⟨.int k n,rfl,rfl,trivial,trivial,fun _ _ h=>h⟩
  | bool b=>exact ⟨.bool b,rfl,rfl,trivial,trivial,fun _ _ h=>h⟩
  | str s=>exact ⟨.str s,rfl,rfl,by simp [uP] at hr; exact hr,trivial,fun _ _ h=>h⟩
  | _=>simp [uP,scalar] at hr
 obtain ⟨c,c1,c2,c3,c4,c5⟩:=hs
 have AU : Ext (fun b k=>∃ x∈cs,x.fp b k) w (grow (w.drewN k) os):=⟨rfl,rfl,rfl,hsz,fun b hb=>.inl (by
  show (w.heap ++ os)[b]? = w.heap[b]?
  exact Array.getElem?_append_left hb)⟩
 refine ⟨c,cs.map fun x=>.dead x.val,zl,⟨by rw [he,c2],by rw [List.map_map]; rfl,AU,⟨fun x hx'=>?_,fun x hx'=>?_,fun x hx' b k hf=>?_,fun b k hz=>Nat.lt_of_lt_of_le (hA.bK b k (hz.imp id fun h=>h.elim)) hsz,?_⟩,fun x hx' b k hf=>?_,fun _ _ h=>h,fun _ _ h=>.inl h⟩,c1,?_⟩
 ·rcases List.mem_cons.1 hx' with rfl | hx'
  ·exact c3
  ·obtain ⟨y,_,rfl⟩:=List.mem_map.1 hx'; trivial
 ·rcases List.mem_cons.1 hx' with rfl | hx'
  ·exact c4
  ·obtain ⟨y,_,rfl⟩:=List.mem_map.1 hx'; trivial
 ·rcases List.mem_cons.1 hx' with rfl | hx'
  ·exact (c5 b k hf).elim
  ·obtain ⟨y,_,rfl⟩:=List.mem_map.1 hx'; exact hf.elim
 ·refine List.pairwise_cons.2 ⟨fun x _ b k hf=>(c5 b k hf).elim,?_⟩
  refine List.pairwise_iff_getElem.2 fun i j hi hj _ b k hf=>?_
  obtain ⟨y,_,hy⟩:=List.mem_map.1 (List.getElem_mem hi)
  rw [← hy] at hf
  exact hf.elim
 ·rcases List.mem_cons.1 hx' with rfl | hx'
  ·exact (c5 b k hf).elim
  ·obtain ⟨y,_,rfl⟩:=List.mem_map.1 hx'; exact hf.elim
 ·rw [← e]
  simp [List.map_map,Function.comp_def,C.er]
theorem P3 [Bs] {P : Program} {f0 : FuncId} {g : List X→Option X} (h : ∀ xs r,g xs = some r→∀ w,mQ w→Calls P f0 (xs.map sv).toArray w fun e w'=>e = .returned (sv r)∧∃ k os,w' = grow (w.drewN k) os) : (gH f0 g).Sound P:=fun f xs o e=>by
 unfold gH at e
 split at e
 ·rename_i hf
  subst hf
  split at e
  ·rename_i r hr
   split at e
   ·rename_i hc
    cases e
    exact J8 (List.all_eq_true.1 hc.1) hc.2 (h xs r hr)
   ·cases e
  ·cases e
 ·cases e
theorem TabIs.same [B : Bs] {P : Program} {w : World} {n : String} {k : IntKind} {zs : List Int} (h : Lib.TabIs P B.W0 n k zs) (hw : mQ w) : Lib.TabIs P w n k zs:=by
 unfold Lib.TabIs World.var? at h ⊢
 cases hg : P.globalNamed n with
 | none=>rw [hg] at h; cases h
 | some g =>
  rw [hg] at h
  simp only [Option.bind_some] at h ⊢
  have hlt : g < B.W0.heap.size:=by
   rcases Nat.lt_or_ge g B.W0.heap.size with h' | h'
   ·exact h'
   ·rw [Array.getElem?_eq_none h'] at h; cases h
  rw [hw g hlt]
  exact h
theorem TW {P : Program} {W : World} {name : String} {k : IntKind} {zs : List Int} {g : Nat} {t e : TypeId} {n : Nat}
  (hg : P.globalNamed name = some g) (hty : (P.globals[g]?).map (·.type) = some t) (ht : P.underlying t = some (.array n e)) (he : P.underlying e = some (.int k)) (hce : P.cellsOf e = 1) (hct : P.cellsOf t = n) :
  ∀ {l : List (String×DataW Unit)} {ps : List MemPlace},DataW.LaidVars P W l ps→(name,Lib.tabData k zs)∈l→Lib.TabIs P W name k zs
 | [],_,_,h=>by cases h
 | (nm,d) :: l,ps,h,hm=>by
  obtain ⟨g',t',cs,fuel,p,q,hg',ht',hvar,hd,hr,_⟩:=h
  rcases List.mem_cons.1 hm with hm | hm
  ·obtain ⟨rfl,rfl⟩:=Prod.mk.inj hm
   obtain rfl:=Option.some.inj (hg.symm.trans hg')
   obtain rfl:=Option.some.inj (hty.symm.trans ht')
   unfold Lib.TabIs
   rw [hvar,← Lib.cells_of_tab ht he hce hct hd]
  ·exact TW hg hty ht he hce hct hr hm
end M
namespace M
open Go
def lv : Ex×ag→bM
 | (.normal,_)=>none
 | (.ret,s)=>some (.ret,s)
 | (.exit i,s)=>some (.exit i,s)
def jW {β γ : Type} (go : β→γ→γ ⊕ (Ex×ag)) : List β→γ→γ ⊕ (Ex×ag)
 | [],g=>.inl g
 | b :: l,g=>match go b g with
  | .inl g'=>jW go l g'
  | .inr o=>.inr o
theorem Cu {xt : Nat} {β γ : Type} {f : ag→bM} (l : List β) (st : Nat→γ→ag) (go : β→γ→γ ⊕ (Ex×ag)) (E : γ→ag) (Inv : Nat→γ→Prop) (g : γ) (h0 : Inv 0 g)
  (h : ∀ i b g,l[i]? = some b→i < l.length→Inv i g→f (st i g) = (match go b g with | .inl g'=>some (.normal,st (i + 1) g') | .inr o=>lv o))
  (hI : ∀ i b g g',l[i]? = some b→Inv i g→go b g = .inl g'→Inv (i + 1) g')
  (hend : ∀ g,Inv l.length g→f (st l.length g) = some (.exit xt,E g)) :
  aK f (st 0 g) = match jW go l g with | .inl g'=>some (.exit xt,E g') | .inr o=>lv o:=by
 suffices H : ∀ (r : List β) (i : Nat) (g : γ),Inv i g→l.drop i = r→i≤l.length→aK f (st i g) = match jW go r g with | .inl g'=>some (.exit xt,E g') | .inr o=>lv o from H l 0 g h0 rfl (Nat.zero_le _)
 intro r
 induction r with
 | nil =>
  intro i g hi hr hl
  have : i = l.length:=by
   have:=congrArg List.length hr
   simp at this
   omega
  subst this
  rw [gZ,hend g hi]
  rfl
 | cons b r ih =>
  intro i g hi hr hl
  have hlt : i < l.length:=by
   rcases Nat.lt_or_ge i l.length with h | h
   ·exact h
   ·rw [List.drop_eq_nil_of_le h] at hr; cases hr
  have hb : l[i]? = some b:=by
   have:=List.drop_eq_getElem_cons hlt
   rw [hr] at this
   rw [List.getElem?_eq_getElem hlt]
   cases this; rfl
  have hr' : l.drop (i + 1) = r:=by
   have:=List.drop_eq_getElem_cons hlt
   rw [hr] at this
   cases this; rfl
  rw [gZ,h i b g hb hlt hi]
  unfold jW
  cases hg : go b g with
  | inl g'=>exact ih (i + 1) g' (hI i b g g' hb hi hg) hr' hlt
  | inr o =>
   obtain ⟨e,s⟩:=o
   cases e <;> simp [cV,lv]
def aZ {α : Type} (p : α→Bool) (l : List α) : Bool:=l.all p
theorem vk {α : Type} {p : α→Bool} {l : List α} : aZ p l = true↔∀ x∈l,p x = true:=List.all_eq_true
theorem cO {xt : Nat} {β : Type} {f : ag→bM} (l : List β) (st : Nat→ag) (p : β→Bool) (R E : ag)
  (h : ∀ i b,l[i]? = some b→i < l.length→f (st i) = if p b = true then some (.normal,st (i + 1)) else some (.ret,R))
  (hend : f (st l.length) = some (.exit xt,E)) :
  aK f (st 0) = if aZ p l = true then some (.exit xt,E) else some (.ret,R):=by
 show _ = if l.all p = true then _ else _
 have H:=Cu (f:=f) l (fun i (_ : Unit)=>st i) (fun b _=>if p b = true then .inl () else .inr (.ret,R)) (fun _=>E) (fun _ _=>True) () trivial
  (fun i b g hb hl _=>by rw [h i b hb hl]; by_cases hp : p b = true <;> simp [hp,lv]) (fun _ _ _ _ _ _ _=>trivial) fun _ _=>hend
 refine H.trans ?_
 have : ∀ r : List β,jW (fun b (_ : Unit)=>if p b = true then .inl () else .inr (Ex.ret,R)) r () = if r.all p = true then .inl () else .inr (.ret,R):=by
  intro r
  induction r with
  | nil=>rfl
  | cons b r ih =>
   simp only [jW]
   by_cases hp : p b = true
   ·simp [hp,ih]
   ·simp [hp]
 rw [this]
 by_cases hp : l.all p = true <;> simp [hp,lv]
theorem RH {xt : Nat} {β γ : Type} {f : ag→bM} (l : List β) (st : Nat→γ→ag) (go : γ→β→γ) (E : γ→ag) (Inv : Nat→γ→Prop) (g : γ) (h0 : Inv 0 g)
  (h : ∀ i b g,l[i]? = some b→i < l.length→Inv i g→f (st i g) = some (.normal,st (i + 1) (go g b)))
  (hI : ∀ i b g,l[i]? = some b→Inv i g→Inv (i + 1) (go g b))
  (hend : ∀ g,Inv l.length g→f (st l.length g) = some (.exit xt,E g)) :
  aK f (st 0 g) = some (.exit xt,E (l.foldl go g)):=by
 refine (Cu (f:=f) l st (fun b g=>.inl (go g b)) E Inv g h0 h (fun i b g g' hb hi e=>by cases e; exact hI i b g hb hi) hend).trans ?_
 have : ∀ (r : List β) (g : γ),jW (fun b g=>.inl (go g b)) r g = (.inl (r.foldl go g) : γ ⊕ (Ex×ag)):=by
  intro r
  induction r with
  | nil=>intro g; rfl
  | cons b r ih=>intro g; simp only [jW,List.foldl_cons]; exact ih _
 rw [this]
theorem eZ {xt : Nat} {β : Type} {f : ag→bM} (l : List β) (st : Nat→ag) (E : ag)
  (h : ∀ i b,l[i]? = some b→i < l.length→f (st i) = some (.normal,st (i + 1)))
  (hend : f (st l.length) = some (.exit xt,E)) : aK f (st 0) = some (.exit xt,E) :=
 RH l (fun i (_ : Unit)=>st i) (fun _ _=>()) (fun _=>E) (fun _ _=>True) () trivial (fun i b _ hb hl _=>h i b hb hl) (fun _ _ _ _ _=>trivial) fun _ _=>hend
theorem aN {n : Int} (h1 : -9223372036854775808≤n) (h2 : n≤9223372036854775807) : IntKind.i64.wrap n = n:=by
 simp only [IntKind.wrap,IntKind.signed,IntKind.bits,Bool.true_and,decide_eq_true_eq]
 split <;> rename_i h <;> simp at h <;> omega
theorem aT (n : Nat) (h : n < 9223372036854775807) : IntKind.i64.wrap (↑n + 1) = ↑n + 1:=aN (by omega) (by omega)
attribute [simp] base zh dX look DF uJ tn lJ mD kW eC dj
abbrev ah:=List UInt8
@[simp] theorem ZS (s : ah) : ByteArray.size ⟨s.toArray⟩ = s.length:=by simp [ByteArray.size]
@[simp] theorem str_inj (s t : ah) : ((⟨s.toArray⟩ : ByteArray) = ⟨t.toArray⟩)↔s = t:=by
 constructor
 ·intro h
  injection h with h
  simpa using congrArg Array.toList h
 ·rintro rfl; rfl
theorem gJ (s t : ah) : (⟨s.toArray⟩ : ByteArray) ++ ⟨t.toArray⟩ = ⟨(s ++ t).toArray⟩:=by
 apply ByteArray.ext
 rw [ByteArray.data_append]
 simp
@[simp] def eS (s : ah) : List X:=[.str ⟨s.toArray⟩]
structure Wr where
 at_ : Int
 text : ah
 deriving DecidableEq
structure cg where
 cells : List ah
 pending : List Wr
 deriving DecidableEq
@[simp] def eW (w : Wr) : List X:=[.int .i64 w.at_,.str ⟨w.text.toArray⟩]
@[simp] def cu (m : Md) (d : cg) : List X:=[.row m 1 (d.cells.map eS),.row m 2 (d.pending.map eW)]
@[simp] theorem Zu (m : Md) (l : List ah) : X.bz m (l.map eS) = l.map eS:=by induction l <;> simp_all [X.bz,X.cC,X.md]
@[simp] theorem Zy (m : Md) (l : List Wr) : X.bz m (l.map eW) = l.map eW:=by induction l <;> simp_all [X.bz,X.cC,X.md]
@[simp] theorem XF (l : List ah) : X.clean.aX (l.map eS) = true:=by induction l <;> simp_all [X.clean.aX,X.clean.bG,X.clean]
@[simp] theorem XJ (l : List Wr) : X.clean.aX (l.map eW) = true:=by induction l <;> simp_all [X.clean.aX,X.clean.bG,X.clean]
def dM {α : Type} (f : α→Int→Int) : List α→Int→Int
 | [],n=>n
 | a :: l,n=>if f a n < 0 then -1 else dM f l (f a n)
theorem tB {xt : Nat} {β : Type} {f : ag→bM} (l : List β) (st : Nat→Int→ag) (z : β→Int→Int) (R : ag) (E : Int→ag) (n : Int) (hn : 0≤n) (hm : n≤9223372036854775807)
  (hz : ∀ a n,z a n≤n∨z a n < 0)
  (h : ∀ i b n,l[i]? = some b→i < l.length→0≤n→n≤9223372036854775807→f (st i n) = if z b n < 0 then some (.ret,R) else some (.normal,st (i + 1) (z b n)))
  (hend : ∀ n,f (st l.length n) = some (.exit xt,E n)) :
  aK f (st 0 n) = if dM z l n < 0 then some (.ret,R) else some (.exit xt,E (dM z l n)):=by
 have H:=Cu (f:=f) l st (fun b n=>if z b n < 0 then .inr (.ret,R) else .inl (z b n)) E (fun _ n=>0≤n∧n≤9223372036854775807) n ⟨hn,hm⟩
  (fun i b n hb hl hi=>by rw [h i b n hb hl hi.1 hi.2]; by_cases hp : z b n < 0 <;> simp [hp,lv]) (fun i b g g' hb hi hg=>by
   by_cases hp : z b g < 0
   ·simp [hp] at hg
   ·simp [hp] at hg
    have:=hz b g
    omega) fun g _=>hend g
 refine H.trans ?_
 have : ∀ (r : List β) (n : Int),0≤n→jW (fun b n=>if z b n < 0 then .inr (Ex.ret,R) else .inl (z b n)) r n = if dM z r n < 0 then .inr (.ret,R) else .inl (dM z r n):=by
  intro r
  induction r with
  | nil=>intro n hn; rw [if_neg (by simp [dM]; omega)]; rfl
  | cons b r ih =>
   intro n hn
   simp only [jW,dM]
   by_cases hp : z b n < 0
   ·simp [hp]
   ·simp only [hp,if_false]
    exact ih _ (by omega)
 rw [this l n hn]
 by_cases hp : dM z l n < 0 <;> simp [hp,lv]
theorem R0 {α β : Type} (l : List α) (e : α→β) (z : β) (g : β→β) {i : Nat} (hi : i < l.length) (hg : g z = e l[i]) :
  ((l.take i).map e ++ List.replicate (l.length - i) z).modify i g = (l.take (i + 1)).map e ++ List.replicate (l.length - (i + 1)) z:=by
 apply List.ext_getElem?
 intro j
 rw [List.getElem?_modify]
 rcases Nat.lt_trichotomy j i with h | h | h
 ·rw [List.getElem?_append_left (by simp; omega),List.getElem?_append_left (by simp; omega)]
  simp only [List.getElem?_map,List.getElem?_take,if_pos h,if_pos (Nat.lt_succ_of_lt h),if_neg (Nat.ne_of_gt h)]
  cases l[j]? <;> rfl
 ·subst h
  rw [List.getElem?_append_right (by simp; omega),List.getElem?_append_left (by simp; omega)]
  have : j - ((l.take j).map e).length = 0:=by simp; omega
  rw [this,List.getElem?_replicate_of_lt (by omega)]
  simp only [List.getElem?_map,List.getElem?_take,if_pos (Nat.lt_succ_self j),List.getElem?_eq_getElem hi,if_true,Option.map_some,← hg]
  rfl
 ·rw [List.getElem?_append_right (by simp; omega),List.getElem?_append_right (by simp; omega)]
  have h1 : j - ((l.take i).map e).length = j - i:=by simp; omega
  have h2 : j - ((l.take (i + 1)).map e).length = j - (i + 1):=by simp; omega
  rw [h1,h2,List.getElem?_replicate,List.getElem?_replicate]
  by_cases h3 : j < l.length
  ·rw [if_pos (by omega),if_pos (by omega)]
   simp only [Nat.ne_of_lt h,if_false]
   rfl
  ·rw [if_neg (by omega),if_neg (by omega)]
   rfl
def cZ (rows : List (List X)) (i : Nat) (z : List X) : List (List X):=rows.take i ++ List.replicate (rows.length - i) z
@[simp] theorem YH (rows : List (List X)) (i : Nat) (z : List X) : (cZ rows i z).length = rows.length:=by simp [cZ]; omega
@[simp] theorem M6 (rows : List (List X)) (i : Nat) (z : List X) (h : i < rows.length) : (cZ rows i z)[i]? = some z:=by
 unfold cZ
 rw [List.getElem?_append_right (by simp; omega),List.getElem?_replicate_of_lt (by simp; omega)]
@[simp] theorem YG (rows : List (List X)) (i : Nat) (z : List X) (h : i < (cZ rows i z).length) : (cZ rows i z)[i] = z:=by
 have h' : i < rows.length:=by simpa using h
 have:=M6 rows i z h'
 rw [List.getElem?_eq_getElem h] at this
 exact Option.some.inj this
@[simp] theorem YI (rows : List (List X)) (z : List X) : cZ rows 0 z = List.replicate rows.length z:=by simp [cZ]
@[simp] theorem YF (rows : List (List X)) (i : Nat) (z : List X) (h : i = rows.length) : cZ rows i z = rows:=by subst h; simp [cZ]
@[simp] theorem jA (rows : List (List X)) (i : Nat) (z : List X) (g : List X→List X) (h : i < rows.length) (hg : g z = rows[i]) : (cZ rows i z).modify i g = cZ rows (i + 1) z:=by
 have:=R0 rows id z g h (by simpa using hg)
 simpa [cZ] using this
theorem jN {α : Type} (l : List α) (i : Nat) (f g : α→α) : (l.modify i f).modify i g = l.modify i fun x=>g (f x):=by
 apply List.ext_getElem?
 intro j
 simp only [List.getElem?_modify]
 by_cases h : i = j
 ·simp only [h,if_true]; cases l[j]? <;> rfl
 ·simp only [h,if_false]; cases l[j]? <;> rfl
theorem ov {α β : Type} : ∀ {a : List α} {b : List β},a.length = b.length→∃ ps : List (α×β),a = ps.map Prod.fst∧b = ps.map Prod.snd
 | [],[],_=>⟨[],rfl,rfl⟩
 | x :: a,y :: b,h=>by
  obtain ⟨ps,h1,h2⟩:=ov (a:=a) (b:=b) (by simpa using h)
  exact ⟨(x,y) :: ps,by simp [← h1],by simp [← h2]⟩
 | [],_ :: _,h=>by cases h
 | _ :: _,[],h=>by cases h
def cL {α : Type} [DecidableEq α] (x : α×α) : Bool:=decide (x.1 = x.2)
theorem mU {α : Type} [DecidableEq α] : ∀ ps : List (α×α),aZ cL ps = decide (ps.map Prod.fst = ps.map Prod.snd)
 | []=>rfl
 | x :: ps=>by
  have:=mU ps
  unfold aZ at this ⊢
  simp only [List.all_cons,this,cL,List.map_cons,List.cons.injEq]
  exact (Bool.decide_and ..).symm
def cY (new old : List (List X)) (i : Nat) : List (List X):=new.take i ++ old.drop i
@[simp] theorem Fw (new old : List (List X)) (i : Nat) (h : new.length = old.length) : (cY new old i).length = old.length:=by simp [cY]; omega
@[simp] theorem M5 (new old : List (List X)) (i : Nat) (h : new.length = old.length) (hi : i < old.length) : (cY new old i)[i]? = old[i]?:=by
 unfold cY
 rw [List.getElem?_append_right (by simp; omega),List.getElem?_drop]
 congr 1
 simp; omega
@[simp] theorem YD (new old : List (List X)) (i : Nat) (hl : i < (cY new old i).length) (h : new.length = old.length) : (cY new old i)[i] = old[i]'(by rw [Fw _ _ _ h] at hl; exact hl):=by
 have hi : i < old.length:=by rw [Fw _ _ _ h] at hl; exact hl
 have:=M5 new old i h hi
 rw [List.getElem?_eq_getElem hl,List.getElem?_eq_getElem hi] at this
 exact Option.some.inj this
@[simp] theorem YE (new old : List (List X)) : cY new old 0 = old:=by simp [cY]
@[simp] theorem YC (new old : List (List X)) (i : Nat) (h : new.length = old.length) (hi : i = old.length) : cY new old i = new:=by subst hi; rw [← h]; simp [cY]; omega
theorem qZ (new old : List (List X)) (i : Nat) (g : List X→List X) (h : new.length = old.length) (hi : i < old.length) (hg : g (old[i]) = new[i]) : (cY new old i).modify i g = cY new old (i + 1):=by
 apply List.ext_getElem?
 intro j
 unfold cY
 rw [List.getElem?_modify]
 rcases Nat.lt_trichotomy j i with hj | hj | hj
 ·rw [List.getElem?_append_left (by simp; omega),List.getElem?_append_left (by simp; omega)]
  simp only [List.getElem?_take,if_pos hj,if_pos (Nat.lt_succ_of_lt hj),if_neg (Nat.ne_of_gt hj)]
  cases new[j]? <;> rfl
 ·subst hj
  rw [List.getElem?_append_right (by simp; omega),List.getElem?_append_left (by simp; omega)]
  have : j - (new.take j).length = 0:=by simp; omega
  rw [this,List.getElem?_drop,Nat.add_zero,List.getElem?_take,if_pos (Nat.lt_succ_self j),List.getElem?_eq_getElem hi,List.getElem?_eq_getElem (by omega)]
  simp only [if_true,← hg]
  rfl
 ·rw [List.getElem?_append_right (by simp; omega),List.getElem?_append_right (by simp; omega),List.getElem?_drop,List.getElem?_drop]
  have h1 : i + (j - (new.take i).length) = j:=by simp; omega
  have h2 : i + 1 + (j - (new.take (i + 1)).length) = j:=by simp; omega
  rw [h1,h2]
  simp only [Nat.ne_of_lt hj,if_false]
  cases old[j]? <;> rfl
def gG (n : Nat) (out : ah) : ah:=if h : n = 0 then out else gG (n / 10) (UInt8.ofNat (48 + n % 10) :: out)
termination_by n
decreasing_by omega
def nW (k : Int) : ah:=if k≤0 then [109,48] else 109 :: gG k.toNat []
def tD (n : Nat) (k : Int) : List ah:=(List.range n).map fun (i : Nat)=>nW (k + i)
def tE (n : Nat) (k : Int) : List Wr:=(List.range n).map fun (i : Nat)=>⟨k + 2 * i,nW (k + 2 * i + 1)⟩
@[simp] theorem Zd (n : Nat) (k : Int) : (tD n k).length = n:=by simp [tD]
@[simp] theorem Zg (n : Nat) (k : Int) : (tE n k).length = n:=by simp [tE]
@[simp] theorem Zc (n : Nat) (k : Int) (i : Nat) (h : i < (tD n k).length) : (tD n k)[i] = nW (k + i):=by simp [tD]
@[simp] theorem Ze (n : Nat) (k : Int) (i : Nat) (h : i < (tE n k).length) : (tE n k)[i] = ⟨k + 2 * i,nW (k + 2 * i + 1)⟩:=by simp [tE]
def foldI {β γ : Type} (go : Nat→γ→β→γ) : Nat→List β→γ→γ
 | _,[],g=>g
 | i,b :: l,g=>foldI go (i + 1) l (go i g b)
theorem kQ {xt : Nat} {β γ : Type} {f : ag→bM} (l : List β) (st : Nat→γ→ag) (go : Nat→γ→β→γ) (E : γ→ag) (Inv : Nat→γ→Prop) (g : γ) (h0 : Inv 0 g)
  (h : ∀ i b g,l[i]? = some b→i < l.length→Inv i g→f (st i g) = some (.normal,st (i + 1) (go i g b)))
  (hI : ∀ i b g,l[i]? = some b→Inv i g→Inv (i + 1) (go i g b))
  (hend : ∀ g,Inv l.length g→f (st l.length g) = some (.exit xt,E g)) :
  aK f (st 0 g) = some (.exit xt,E (foldI go 0 l g)):=by
 suffices H : ∀ (r : List β) (i : Nat) (g : γ),Inv i g→l.drop i = r→i≤l.length→aK f (st i g) = some (.exit xt,E (foldI go i r g)) from H l 0 g h0 rfl (Nat.zero_le _)
 intro r
 induction r with
 | nil =>
  intro i g hi hr hl
  have : i = l.length:=by
   have:=congrArg List.length hr
   simp at this
   omega
  subst this
  rw [gZ,hend g hi]
  rfl
 | cons b r ih =>
  intro i g hi hr hl
  have hlt : i < l.length:=by
   rcases Nat.lt_or_ge i l.length with h | h
   ·exact h
   ·rw [List.drop_eq_nil_of_le h] at hr; cases hr
  have hd:=List.drop_eq_getElem_cons hlt
  rw [hr] at hd
  have hb : l[i]? = some b:=by
   rw [List.getElem?_eq_getElem hlt]
   cases hd; rfl
  have hr' : l.drop (i + 1) = r:=by cases hd; rfl
  rw [gZ,h i b g hb hlt hi]
  exact ih (i + 1) _ (hI i b g hb hi) hr' hlt
def fK (k : Nat→Bool) (i : Nat) (cs : List ah) (w : Wr) : List ah:=if k i = true then cs.set w.at_.toNat w.text else cs
def nU (k : Nat→Bool) (cs : List ah) (ws : List Wr) : List ah:=foldI (fK k) 0 ws cs
theorem Cn (k : Nat→Bool) (i : Nat) (cs : List ah) (w : Wr) : (fK k i cs w).length = cs.length:=by unfold fK; split <;> simp
theorem FL (k : Nat→Bool) : ∀ (ws : List Wr) (i : Nat) (cs : List ah),(foldI (fK k) i ws cs).length = cs.length
 | [],_,_=>rfl
 | w :: ws,i,cs=>by rw [foldI,FL k ws,Cn]
theorem RA (k : Nat→Bool) (cs : List ah) (ws : List Wr) : (nU k cs ws).length = cs.length:=FL k ws 0 cs
@[simp] theorem Zz (cs : List ah) (n : Nat) (t : ah) : (cs.map eS).modify n (fun x=>x.set 0 (X.str ⟨t.toArray⟩)) = (cs.set n t).map eS:=by
 apply List.ext_getElem?
 intro j
 rw [List.getElem?_modify,List.getElem?_map,List.getElem?_map,List.getElem?_set]
 by_cases h : n = j
 ·subst h
  simp only [if_true]
  by_cases h2 : n < cs.length
  ·simp [h2]
  ·simp [h2,List.getElem?_eq_none (Nat.le_of_not_lt h2)]
 ·simp only [h,if_false]
  cases cs[j]? <;> rfl
def gX (keep : List Bool) (all : Bool) (i : Nat) : Bool:=all || keep.getD i false
@[simp] def eB (b : Bool) : List X:=[.bool b]
@[simp] theorem Zi (m : Md) (l : List Bool) : X.bz m (l.map eB) = l.map eB:=by induction l <;> simp_all [X.bz,X.cC,X.md]
@[simp] theorem Xt (l : List Bool) : X.clean.aX (l.map eB) = true:=by induction l <;> simp_all [X.clean.aX,X.clean.bG,X.clean]
theorem za (l : List ah) : cF (l.map eS) = true:=by induction l <;> simp_all [cF,scalar]
theorem HP (l : List Wr) : cF (l.map eW) = true:=by induction l <;> simp_all [cF,scalar]
attribute [simp] za HP
@[simp] theorem Xs (a b : List (List X)) : X.clean.aX (a ++ b) = (X.clean.aX a && X.clean.aX b):=by
 induction a with
 | nil=>simp [X.clean.aX]
 | cons e a ih=>simp [X.clean.aX,ih,Bool.and_assoc]
@[simp] theorem Zh (m : Md) (a b : List (List X)) : X.bz m (a ++ b) = X.bz m a ++ X.bz m b:=by
 induction a with
 | nil=>simp [X.bz]
 | cons e a ih=>simp [X.bz,ih]
structure j9 where
 code : List UInt8
 i : Nat
 h : Int
 hi : i≤code.length
 hl : code.length≤9223372036854775807
@[simp] def eU (b : UInt8) : List X:=[.int .u8 (b.toNat : Int)]
@[simp] theorem Zx (m : Md) (l : List UInt8) : X.bz m (l.map eU) = l.map eU:=by induction l <;> simp_all [X.bz,X.cC,X.md]
@[simp] theorem XI (l : List UInt8) : X.clean.aX (l.map eU) = true:=by induction l <;> simp_all [X.clean.aX,X.clean.bG,X.clean]
def gv (c : j9) : List X:=[.row .sl 1 (c.code.map eU),.int .i64 c.i,.int .i64 c.h]
@[simp] theorem Yf (c : j9) : (gv c).length = 3:=rfl
@[simp] theorem Yh (c : j9) : (gv c).take 3 = gv c:=rfl
@[simp] theorem Yc (c : j9) : (gv c).drop 3 = []:=rfl
@[simp] theorem Yg (ks : List Nat) (c : j9) : X.jR ks (gv c) = gv c:=rfl
@[simp] theorem Yd (r : Nat) (p : Path) (c : j9) : X.dF r p (gv c) = gv c:=rfl
@[simp] theorem Ye (r : Nat) (p : Path) (c : j9) : X.kN r p (gv c) = gv c:=rfl
@[simp] theorem Yb (c : j9) : X.clean.bG (gv c) = true:=by simp [gv,X.clean.bG,X.clean]
@[simp] theorem Ya (c : j9) : X.bare.eP (gv c) = true:=by simp [gv,X.bare.eP,X.bare]
end M
namespace M
open Go Go.RowKit
inductive Ty where
 | int (k : IntKind)
 | bool
 | str
 | row (ts : List Ty)
inductive fq : Ty→X→Prop
 | int {k n} : (Lit.int k n).wf = true→fq (.int k) (.int k n)
 | bool {b} : fq .bool (.bool b)
 | str {s : ByteArray} : s.size≤maxLen→fq .str (.str s)
 | row {ts xs} : xs.length≤maxLen→(∀ r : List X,r∈xs→r.length = ts.length)→(∀ (r : List X),r∈xs→∀ (j : Nat) ty x,ts[j]? = some ty→r[j]? = some x→fq ty x)→fq (.row ts) (.row .sl ts.length xs)
structure va (w : World) (ty : Ty) (c : C) : Prop where
 cell : c.cell
 bX : c.bX
 fits : c.fits .sl
 ok : c.ok w (Zf (fun b _=>b < w.heap.size) fun _ _=>False)
 fp : ∀ b k,¬ c.fp b k
 qP : fq ty c.er
def gP (w : World) : List Ty→List Value→List C→Prop
 | [],[],[]=>True
 | ty :: ts,v :: vs,c :: cs=>c.val = v∧va w ty c∧gP w ts vs cs
 | _,_,_=>False
theorem FY {w : World} : ∀ {ts : List Ty} {vs : List Value} {cs : List C} {ts' : List Ty} {vs' : List Value} {cs' : List C},gP w ts vs cs→gP w ts' vs' cs'→gP w (ts ++ ts') (vs ++ vs') (cs ++ cs')
 | [],[],[],_,_,_,_,h=>h
 | _ :: _,_ :: _,_ :: _,_,_,_,⟨h1,h2,h3⟩,h=>⟨h1,h2,FY h3 h⟩
theorem FZ {w : World} : ∀ {ts : List Ty} {vs : List Value} {cs : List C},gP w ts vs cs→vs.length = ts.length∧cs.length = ts.length∧vs = cs.map C.val
 | [],[],[],_=>⟨rfl,rfl,rfl⟩
 | _ :: _,_ :: _,_ :: _,⟨h1,h2,h3⟩=>by
  obtain ⟨e1,e2,e3⟩:=FZ h3
  exact ⟨by simp [e1],by simp [e2],by simp [h1,← e3]⟩
theorem AG {w : World} : ∀ {ts : List Ty} {vs : List Value} {cs : List C},gP w ts vs cs→∀ {j : Nat},j < ts.length→∃ ty c,ts[j]? = some ty∧cs[j]? = some c∧vs[j]? = some c.val∧va w ty c
 | ty :: ts,v :: vs,c :: cs,⟨h1,h2,h3⟩,0,_=>⟨ty,c,rfl,rfl,by simp [h1],h2⟩
 | ty :: ts,v :: vs,c :: cs,⟨h1,h2,h3⟩,j + 1,h=>by
  obtain ⟨ty,c,a1,a2,a3,a4⟩:=AG h3 (j:=j) (by simpa using h)
  exact ⟨ty,c,by simpa using a1,by simpa using a2,by simpa using a3,a4⟩
def qq (P : Program) (r : TypeId→Option (List Ty)) : Nat→List Field→Option (List Ty)
 | _,[]=>some []
 | o,f :: fs=>if f.offset = o then (r f.type).bind fun ts=>if ts.length = P.cellsOf f.type then (qq P r (o + ts.length) fs).map (ts ++ ·) else none else none
def fo (P : Program) : Nat→Bool→TypeId→Option (List Ty)
 | 0,_,_=>none
 | n + 1,deep,t=>match P.underlying t with
  | some .bool=>some [.bool]
  | some (.int k)=>some [.int k]
  | some .string=>some [.str]
  | some (.slice e)=>if deep then (fo P n true e).bind fun ts=>if ts.length = P.cellsOf e∧0 < P.cellsOf e then some [.row ts] else none else none
  | some (.struct fs)=>(qq P (fo P n deep) 0 fs.toList).bind fun ts=>if ts.length = P.cellsOf t then some ts else none
  | _=>none
section
variable {H : Type} {enc : TypeId×Value→H} {P : Program} {w : World} {sp : Nat→Bool} {held : Bool}
theorem Iq {r : TypeId→Option (List Ty)} {cs : List Value}
  (hr : ∀ t ts fuel cs' x,r t = some ts→DataW.trod enc P w 0 sp held fuel t cs' = some x→(∀ v∈cs',v∈cs)→∃ Cs,gP w ts cs' Cs) :
  ∀ (fs : List Field) (o : Nat) (ts : List Ty),qq P r o fs = some ts→(∀ f∈fs,∃ fuel x,DataW.trod enc P w 0 sp held fuel f.type ((cs.drop f.offset).take (P.cellsOf f.type)) = some x) →
   ∃ Cs,gP w ts ((cs.drop o).take ts.length) Cs
 | [],o,ts,h,_=>by
  cases h
  exact ⟨[],by simp [gP]⟩
 | f :: fs,o,ts,h,hx=>by
  simp only [qq] at h
  split at h
  ·rename_i ho
   simp only [Option.bind_eq_some_iff] at h
   obtain ⟨t1,h1,h⟩:=h
   split at h
   ·rename_i hl
    simp only [Option.map_eq_some_iff] at h
    obtain ⟨t2,h2,rfl⟩:=h
    obtain ⟨fuel,x,hf⟩:=hx f (List.mem_cons_self ..)
    obtain ⟨C1,g1⟩:=hr _ _ _ _ _ h1 hf fun v hv=>List.mem_of_mem_drop (List.mem_of_mem_take hv)
    obtain ⟨C2,g2⟩:=Iq hr fs _ _ h2 fun f hf=>hx f (List.mem_cons_of_mem _ hf)
    refine ⟨C1 ++ C2,?_⟩
    rw [List.length_append,List.take_add,List.drop_drop]
    rw [ho,← hl] at g1
    exact FY g1 g2
   ·cases h
  ·cases h
theorem TM {w : World} {g o n m : Nat} {spot : Option Nat} {vs : List Value} (hn : 0 < n) (h : w.cells? 0 ((⟨g,o,spot⟩ : Addr).add (0 * m)) n = some vs) : spot = none:=by
 obtain ⟨_,hl,e3⟩:=World.cells?_some h
 have e4:=e3 0 hn
 have : ∃ v,vs[0]? = some v:=⟨vs[0],List.getElem?_eq_getElem (by omega)⟩
 obtain ⟨v,hv⟩:=this
 rw [hv] at e4
 have ha : ((⟨g,o,spot⟩ : Addr).add (0 * m)).add 0 = ⟨g,o,spot⟩:=by simp [Addr.add]
 rw [ha] at e4
 unfold World.cell? at e4
 cases spot with
 | none=>rfl
 | some k =>
  split at e4
  ·simp at e4
  ·cases e4
theorem trod_good : ∀ (n : Nat) (deep : Bool) (t : TypeId) (ts : List Ty),fo P n deep t = some ts→∀ (fuel : Nat) (cs : List Value) (x : DataW H×List MemPlace),DataW.trod enc P w 0 sp held fuel t cs = some x→∃ Cs,gP w ts cs Cs
 | 0,_,_,_,h,_,_,_,_=>by cases h
 | n + 1,deep,t,ts,h,fuel,cs,x,hx=>by
  simp only [fo] at h
  split at h
  ·rename_i hu
   cases h
   obtain ⟨b,rfl,rfl⟩:=DataW.trod_bool hu hx
   exact ⟨[.bool b],rfl,⟨trivial,trivial,trivial,trivial,fun _ _ h=>h,.bool⟩,trivial⟩
  ·rename_i k hu
   cases h
   obtain ⟨m,rfl,rfl,hw⟩:=DataW.trod_int hu hx
   exact ⟨[.int k m],rfl,⟨trivial,trivial,trivial,trivial,fun _ _ h=>h,.int hw⟩,trivial⟩
  ·rename_i hu
   cases h
   obtain ⟨s,rfl,rfl,hw⟩:=DataW.trod_string hu hx
   exact ⟨[.str s],rfl,⟨trivial,trivial,trivial,hw,fun _ _ h=>h,.str hw⟩,trivial⟩
  ·rename_i e hu
   split at h
   ·rename_i hd
    simp only [Option.bind_eq_some_iff] at h
    obtain ⟨te,h1,h⟩:=h
    split at h
    ·rename_i hl
     obtain ⟨hl,hpos⟩:=hl
     cases h
     rcases DataW.trod_slice hu hx with ⟨rfl,rfl⟩ | ⟨a,len,cap,elems,rest,m,rfl,rfl,rfl,_,hlc,hcm,hel,jC,_,_⟩
     ·refine ⟨[.row .sl te.length none 0 0 fun _ _=>.dead undef],rfl,⟨trivial,trivial,.inr (.inl rfl),⟨Nat.le_refl _,fun i j hi=>by omega,fun i j hi=>by omega,fun h=>(by cases h),fun i j hi=>by omega⟩,fun b k h=>(by cases h.1),?_⟩,trivial⟩
      exact fq.row (xs:=[]) (by simp) (fun r hr=>by cases hr) (fun r hr=>by cases hr)
     ·obtain ⟨g,o,spot⟩:=a
      by_cases hl0 : len = 0
      ·subst hl0
       refine ⟨[.row .sl te.length (some (g,o,spot)) 0 cap fun _ _=>.dead undef],rfl,⟨trivial,trivial,.inr (.inl rfl),⟨hlc,fun i j hi=>by omega,fun i j hi=>by omega,fun h=>(by cases h),fun i j hi=>by omega⟩,fun b k h=>(by cases h.1),?_⟩,trivial⟩
       exact fq.row (xs:=[]) (by simp) (fun r hr=>by cases hr) (fun r hr=>by cases hr)
      have Q2 : spot = none:=by
       have:=jC 0 (by omega)
       rw [List.getElem?_eq_getElem (by omega),Option.bind_eq_some_iff] at this
       obtain ⟨vs,e1,e2⟩:=this
       exact TM hpos e1
      subst Q2
      have hex : ∀ i,∃ (vs : List Value) (l : List C),i < len→w.cells? 0 ((⟨g,o,none⟩ : Addr).add (i * P.cellsOf e)) (P.cellsOf e) = some vs∧gP w te vs l:=fun i=>by
       by_cases hi : i < len
       ·have:=jC i hi
        rw [List.getElem?_eq_getElem (by omega),Option.bind_eq_some_iff] at this
        obtain ⟨vs,e1,e2⟩:=this
        obtain ⟨l,hl⟩:=trod_good n true _ _ h1 _ _ _ e2
        exact ⟨vs,l,fun _=>⟨e1,hl⟩⟩
       ·exact ⟨[],[],fun h=>(hi h).elim⟩
      let vs:=fun i=>(hex i).choose
      let l:=fun i=>(hex i).choose_spec.choose
      have hvl : ∀ i,i < len→w.cells? 0 ((⟨g,o,none⟩ : Addr).add (i * P.cellsOf e)) (P.cellsOf e) = some (vs i)∧gP w te (vs i) (l i):=fun i=>(hex i).choose_spec.choose_spec
      have hij : ∀ i j,i < len→j < te.length→∃ ty,te[j]? = some ty∧(l i)[j]? = some ((l i).getD j (.dead undef))∧w.cell? ⟨g,o + i * te.length + j,none⟩ = some ((l i).getD j (.dead undef)).val∧va w ty ((l i).getD j (.dead undef)):=fun i j hi hj=>by
       obtain ⟨e1,e2⟩:=hvl i hi
       obtain ⟨ty,c,a1,a2,a3,a4⟩:=AG e2 hj
       have hc : (l i).getD j (.dead undef) = c:=by rw [List.getD_eq_getElem?_getD,a2]; rfl
       rw [hc]
       obtain ⟨_,_,e3⟩:=World.cells?_some e1
       have e4:=e3 j (by omega)
       rw [a3] at e4
       refine ⟨ty,a1,a2,?_,a4⟩
       rw [← e4]
       congr 1
       rw [hl]
       unfold Addr.add
       split <;> split <;> simp_all
      have hb : ∀ i j,i < len→j < te.length→g < w.heap.size:=fun i j hi hj=>by
       obtain ⟨_,_,_,h3,_⟩:=hij i j hi hj
       exact World.block_lt_of_cell? w _ h3
      refine ⟨[.row .sl te.length (some (g,o,none)) len cap fun i j=>(l i).getD j (.dead undef)],rfl,⟨trivial,trivial,.inr (.inl rfl),⟨hlc,fun i j hi hj=>⟨g,o,rfl,?_,fun _=>hb i j hi hj⟩,fun i j hi hj=>?_,fun h=>(by cases h),fun i j hi hj b k hf=>?_⟩,fun b k h=>(by cases h.1),?_⟩,trivial⟩
      ·obtain ⟨ty,_,_,h3,h4⟩:=hij i j hi hj
       exact h3
      ·obtain ⟨ty,_,_,h3,h4⟩:=hij i j hi hj
       exact ⟨h4.cell,h4.bX,h4.fits,h4.ok⟩
      ·obtain ⟨ty,_,_,h3,h4⟩:=hij i j hi hj
       exact (h4.fp b k hf).elim
      ·refine fq.row (by simpa using Nat.le_trans hlc hcm) (fun r hr=>?_) fun r hr j ty x hty Ba=>?_
       ·simp only [List.mem_map,List.mem_range] at hr
        obtain ⟨i,_,rfl⟩:=hr
        simp
       ·simp only [List.mem_map,List.mem_range] at hr
        obtain ⟨i,hi,rfl⟩:=hr
        have hj : j < te.length:=by
         rcases Nat.lt_or_ge j te.length with h | h
         ·exact h
         ·rw [List.getElem?_eq_none h] at hty; cases hty
        obtain ⟨ty',e1,_,_,h4⟩:=hij i j hi hj
        rw [e1] at hty
        cases hty
        rw [List.getElem?_map,List.getElem?_range hj] at Ba
        simp only [Option.map_some,Option.some.injEq] at Ba
        subst Ba
        exact h4.qP
    ·cases h
   ·cases h
  ·rename_i fs hu
   simp only [Option.bind_eq_some_iff] at h
   obtain ⟨te,h1,h⟩:=h
   split at h
   ·rename_i hl
    cases h
    obtain ⟨xs,m,rfl,rfl,hcs,hxl,jC⟩:=DataW.trod_struct hu hx
    obtain ⟨Cs,hC⟩:=Iq (cs:=cs) (fun t ts' fuel cs' x hr ht hm=>trod_good n deep t ts' hr fuel cs' x ht) fs.toList 0 ts h1 fun f hf=>by
     obtain ⟨i,hi,rfl⟩:=List.getElem_of_mem hf
     have hi' : i < fs.size:=by simpa using hi
     have:=jC i (fs[i]) (by simp [hi'])
     rw [List.getElem?_eq_getElem (by omega)] at this
     exact ⟨_,_,by simpa using this⟩
    refine ⟨Cs,?_⟩
    rw [List.drop_zero,hl,← hcs,List.take_length] at hC
    exact hC
   ·cases h
  ·cases h
theorem DQ : ∀ (n : Nat) (deep : Bool) (t : TypeId) (ts : List Ty),fo P n deep t = some ts→∀ (fuel : Nat) (cs : List Value) (x : DataW H×List MemPlace),DataW.trod enc P w 0 (fun _=>true) held fuel t cs = some x→DataW.trod enc P w 0 (fun b=>decide (b < w.heap.size)) held fuel t cs = some x
 | 0,_,_,_,h,_,_,_,_=>by cases h
 | n + 1,deep,t,ts,h,0,cs,x,hx=>by simp [DataW.trod] at hx
 | n + 1,deep,t,ts,h,fuel + 1,cs,x,hx=>by
  simp only [fo] at h
  split at h
  ·rename_i hu
   obtain ⟨b,rfl,rfl⟩:=DataW.trod_bool hu hx
   simp [DataW.trod,hu]
  ·rename_i k hu
   obtain ⟨m,rfl,rfl,hw⟩:=DataW.trod_int hu hx
   simp [DataW.trod,hu,hw]
  ·rename_i hu
   obtain ⟨s,rfl,rfl,hw⟩:=DataW.trod_string hu hx
   simp [DataW.trod,hu,hw]
  ·rename_i e hu
   split at h
   ·simp only [Option.bind_eq_some_iff] at h
    obtain ⟨te,h1,h⟩:=h
    split at h
    ·rename_i hl
     obtain ⟨hl,hpos⟩:=hl
     rcases DataW.trod_slice hu hx with ⟨rfl,rfl⟩ | ⟨a,len,cap,elems',rest',m,_,rfl,_⟩
     ·simp [DataW.trod,hu]
     ·unfold DataW.trod at hx ⊢
      simp only [hu] at hx ⊢
      split at hx
      ·rename_i hc
       rw [if_pos hc]
       simp only [Option.map_eq_some_iff,Option.bind_eq_some_iff,if_true] at hx ⊢
       obtain ⟨elems,he,rest,nE,rfl⟩:=hx
       have one : ∀ (i : Nat) (y : DataW H×List MemPlace),(w.cells? 0 (a.add (i * P.cellsOf e)) (P.cellsOf e)).bind (DataW.trod enc P w 0 (fun _=>true) held fuel e) = some y→(w.cells? 0 (a.add (i * P.cellsOf e)) (P.cellsOf e)).bind (DataW.trod enc P w 0 (fun b=>decide (b < w.heap.size)) held fuel e) = some y:=fun i y hv=>by
        simp only [Option.bind_eq_some_iff] at hv ⊢
        obtain ⟨cs',fY,hy'⟩:=hv
        exact ⟨cs',fY,DQ n true _ _ h1 _ _ _ hy'⟩
       refine ⟨elems,mapM_carry he fun i y _ _ hv=>one i y hv,rest,?_,rfl⟩
       by_cases hb : a.block < w.heap.size
       ·rw [if_pos (by simpa using hb)]
        exact mapM_carry nE fun i y _ _ hv=>one (len + i) y hv
       ·rw [if_neg (by simpa using hb)]
        have : cap - len = 0:=by
         rcases Nat.eq_zero_or_pos (cap - len) with h | h
         ·exact h
         ·have h0:=mapM_some_get nE 0 0 (by simp [h])
          have hl' : 0 < rest.length:=by have:=mapM_some_length nE; simp at this; omega
          rw [List.getElem?_eq_getElem hl',Option.bind_eq_some_iff] at h0
          obtain ⟨vs,e1,_⟩:=h0
          have:=World.cells?_block e1 hpos
          refine (hb ?_).elim
          unfold Addr.add at this
          split at this <;> exact this
        rw [this] at nE
        exact nE
      ·cases hx
    ·cases h
   ·cases h
  ·rename_i fs hu
   simp only [Option.bind_eq_some_iff] at h
   obtain ⟨te,h1,h⟩:=h
   unfold DataW.trod at hx ⊢
   simp only [hu] at hx ⊢
   have each : ∀ (o : Nat) (l : List Field) (ts : List Ty),qq P (fo P n deep) o l = some ts→∀ f∈l,∃ t1,fo P n deep f.type = some t1:=by
    intro o l
    induction l generalizing o with
    | nil=>intro _ _ f hf; cases hf
    | cons f l ih =>
     intro ts h f' hf'
     simp only [qq] at h
     split at h
     ·simp only [Option.bind_eq_some_iff] at h
      obtain ⟨t1,e1,h⟩:=h
      split at h
      ·simp only [Option.map_eq_some_iff] at h
       obtain ⟨t2,e2,_⟩:=h
       rcases List.mem_cons.1 hf' with rfl | hf'
       ·exact ⟨t1,e1⟩
       ·exact ih _ _ e2 f' hf'
      ·cases h
     ·cases h
   split at hx
   ·rename_i hc
    rw [if_pos hc]
    simp only [Option.map_eq_some_iff] at hx ⊢
    obtain ⟨xs,hx,rfl⟩:=hx
    refine ⟨xs,mapM_carry hx fun f y hf _ hv=>?_,rfl⟩
    obtain ⟨t1,e1⟩:=each _ _ _ h1 f hf
    exact DQ n deep _ _ e1 _ _ _ hv
   ·cases hx
  ·cases h
inductive iT where
 | one (ty : Ty)
 | agg (tys : List Ty)
inductive j8 : iT→X→Prop
 | one {ty x} : fq ty x→j8 (.one ty) x
 | agg {tys : List Ty} {l : List X} : l.length = tys.length→(∀ (j : Nat) ty x,tys[j]? = some ty→l[j]? = some x→fq ty x)→j8 (.agg tys) (.agg l)
def mV (P : Program) (t : TypeId) : Option iT:=match P.underlying t with
 | some (.struct _)=>(fo P 20 true t).map .agg
 | some .bool=>some (.one .bool)
 | some (.int k)=>some (.one (.int k))
 | some .string=>some (.one .str)
 | some (.slice _)=>(fo P 20 true t).bind fun
  | [ty]=>some (.one ty)
  | _=>none
 | _=>none
theorem Em {c : C} (h1 : c.cell) (h2 : c.bX) : c.bare:=by
 cases c <;> first | trivial | exact h2.elim
structure Ec (w : World) (a : iT) (v : Value) (c : C) : Prop where
 val : c.val = v
 ok : c.ok w (Zf (fun b _=>b < w.heap.size) fun _ _=>False)
 bare : c.bare
 fp : ∀ b k,¬ c.fp b k
 qP : j8 a c.er
theorem vW {ty : Ty} {cs : List Value} {Cs : List C} {v : Value} (h : gP w [ty] cs Cs) (e : cs = [v]) : ∃ c,Ec w (.one ty) v c:=by
 subst e
 match Cs,h with
 | [c],⟨h1,h2,_⟩=>exact ⟨c,h1,h2.ok,Em h2.cell h2.bX,h2.fp,.one h2.qP⟩
theorem Kk {r : Reach} {base : Nat} {t : TypeId} {v : Value} {d : DataW H} {p : List MemPlace} {a : iT} (ha : mV P t = some a) (hv : Value.okWide P w r base t v) (hd : DataW.Trod enc P w 0 sp held t v d p) : ∃ c,Ec w a v c:=by
 obtain ⟨fuel,hf⟩:=hd
 unfold mV at ha
 split at ha
 ·rename_i fs hu
  simp only [Option.map_eq_some_iff] at ha
  obtain ⟨ts,ht,rfl⟩:=ha
  unfold Value.okWide at hv
  rw [hu] at hv
  obtain ⟨cs,rfl,_,ts',_,_,hcell⟩:=hv
  obtain ⟨Cs,hC⟩:=trod_good _ _ _ _ ht _ _ _ hf
  obtain ⟨l1,l2,l3⟩:=FZ hC
  have jC : ∀ j,j < Cs.length→∃ ty,ts[j]? = some ty∧va w ty (Cs.getD j (.dead undef)):=fun j hj=>by
   obtain ⟨ty,c,a1,a2,a3,a4⟩:=AG hC (j:=j) (by omega)
   exact ⟨ty,a1,by rw [List.getD_eq_getElem?_getD,a2]; exact a4⟩
  refine ⟨.agg Cs.length fun j=>Cs.getD j (.dead undef),?_,⟨fun j hj=>?_,fun j hj b k hf=>?_⟩,fun j hj=>?_,fun b k ⟨j,hj,hf⟩=>?_,?_⟩
  ·show Value.agg _ = _
   congr 1
   apply Array.ext'
   show (List.range Cs.length).map (fun j=>(Cs.getD j (.dead undef)).val) = cs.toList
   have : (Value.agg cs).cells.toList = cs.toList:=rfl
   rw [← this,l3]
   letI : Bs:=⟨w⟩
   exact iO Cs _ C.val
  ·obtain ⟨_,_,h⟩:=jC j hj; exact ⟨h.cell,h.ok⟩
  ·obtain ⟨_,_,h⟩:=jC j hj; exact (h.fp b k hf).elim
  ·obtain ⟨_,_,h⟩:=jC j hj; exact Em h.cell h.bX
  ·obtain ⟨_,_,h⟩:=jC j hj; exact h.fp b k hf
  ·refine j8.agg (by simpa using l2) fun j ty x hty hx=>?_
   have hj : j < Cs.length:=by
    rcases Nat.lt_or_ge j Cs.length with h | h
    ·exact h
    ·rw [List.getElem?_eq_none (by simpa using h)] at hx; cases hx
   obtain ⟨ty',e1,h⟩:=jC j hj
   rw [e1] at hty
   cases hty
   rw [List.getElem?_map,List.getElem?_range hj] at hx
   simp only [Option.map_some,Option.some.injEq] at hx
   subst hx
   exact h.qP
 ·rename_i hu
  cases ha
  obtain ⟨Cs,hC⟩:=trod_good 1 true t [.bool] (by simp [fo,hu]) _ _ _ hf
  obtain ⟨b,hb,_⟩:=DataW.trod_bool hu hf
  exact vW hC (v:=v) (by
   unfold Value.okWide at hv; rw [hu] at hv
   unfold Cell.okWide at hv; rw [hu] at hv; unfold Cell.ok at hv; rw [hu] at hv
   cases v <;> first | rfl | (simp at hv; done))
 ·rename_i k hu
  cases ha
  obtain ⟨m,hb,_⟩:=DataW.trod_int hu hf
  obtain ⟨Cs,hC⟩:=trod_good 1 true t [.int k] (by simp [fo,hu]) _ _ _ hf
  exact vW hC (v:=v) (by
   unfold Value.okWide at hv; rw [hu] at hv
   unfold Cell.okWide at hv; rw [hu] at hv; unfold Cell.ok at hv; rw [hu] at hv
   cases v <;> first | rfl | (simp at hv; done))
 ·rename_i hu
  cases ha
  obtain ⟨m,hb,_⟩:=DataW.trod_string hu hf
  obtain ⟨Cs,hC⟩:=trod_good 1 true t [.str] (by simp [fo,hu]) _ _ _ hf
  exact vW hC (v:=v) (by
   unfold Value.okWide at hv; rw [hu] at hv
   unfold Cell.okWide at hv; rw [hu] at hv; unfold Cell.ok at hv; rw [hu] at hv
   cases v <;> first | rfl | (simp at hv; done))
 ·rename_i e hu
  simp only [Option.bind_eq_some_iff] at ha
  obtain ⟨ts,ht,ha⟩:=ha
  split at ha
  ·rename_i ty
   cases ha
   have hc : Cell.okWide P w r base t v:=by unfold Value.okWide at hv; rw [hu] at hv; exact hv
   have hv1 : v.cells.toList = [v]:=by
    unfold Cell.okWide at hc; rw [hu] at hc; unfold Cell.ok at hc; rw [hu] at hc
    cases v <;> first | rfl | (simp at hc; done)
   obtain ⟨Cs,hC⟩:=trod_good _ _ _ _ ht _ _ _ hf
   exact vW hC hv1
  ·cases ha
 ·cases ha
def ow : List iT→List X→Prop
 | [],[]=>True
 | a :: as,x :: xs=>j8 a x∧ow as xs
 | _,_=>False
theorem Ek {r : Reach} {base : Nat} : ∀ {ts : List TypeId} {as : List iT} {vs : List Value} {ds : List (DataW H)} {p : List MemPlace},ts.map (mV P) = as.map some →
  (∀ (j : Nat) t v,ts[j]? = some t→vs[j]? = some v→Value.okWide P w r base t v)→DataW.TrodAll enc P w 0 sp held ts vs ds p →
  ∃ cs : List C,cs.map C.val = vs∧(∀ c∈cs,c.ok w (Zf (fun b _=>b < w.heap.size) fun _ _=>False)∧c.bare∧∀ b k,¬ c.fp b k)∧ow as (cs.map C.er)
 | [],[],[],[],_,_,_,_=>⟨[],rfl,fun _ h=>(by cases h),trivial⟩
 | t :: ts,a :: as,v :: vs,d :: ds,_,ha,hv,⟨p,q,h1,h2,_⟩=>by
  simp only [List.map_cons,List.cons.injEq] at ha
  obtain ⟨c,hc⟩:=Kk ha.1 (hv 0 t v rfl rfl) h1
  obtain ⟨cs,e1,e2,e3⟩:=Ek ha.2 (fun j t' v' ht ey=>hv (j + 1) t' v' (by simpa using ht) (by simpa using ey)) h2
  refine ⟨c :: cs,by simp [hc.val,e1],fun x hx=>?_,⟨hc.qP,e3⟩⟩
  rcases List.mem_cons.1 hx with rfl | hx
  ·exact ⟨hc.ok,hc.bare,hc.fp⟩
  ·exact e2 x hx
theorem Xn {r : Reach} {base : Nat} {ts : List TypeId} {as : List iT} {vs : List Value} {ds : List (DataW H)} {p : List MemPlace} {f : FuncId} (ha : ts.map (mV P) = as.map some)
  (hv : ∀ (j : Nat) t v,ts[j]? = some t→vs[j]? = some v→Value.okWide P w r base t v) (hd : DataW.TrodAll enc P w 0 sp held ts vs ds p)
  (P9 : ∀ xs,ow as xs→@AC ⟨w⟩ P f xs fun r _=>r = .bool true) : Calls P f vs.toArray w fun e w'=>e = .returned (.bool true)∧Below w.heap.size w w':=by
 obtain ⟨cs,rfl,hcs,hc⟩:=Ek ha hv hd
 refine (P9 _ hc w (fun b _=>b < w.heap.size) (fun _ _=>False) cs rfl ⟨fun x hx=>(hcs x hx).1,fun x hx=>(hcs x hx).2.1,fun x hx b k hf=>((hcs x hx).2.2 b k hf).elim,fun b k h=>h.elim id False.elim,?_⟩ fun b hb=>⟨rfl,fun k=>.inl hb⟩).mono fun e w' ⟨r,ps,aA,hD,hr⟩=>?_
 ·refine List.pairwise_iff_getElem.2 fun i j hi hj _ b k hf=>((hcs _ (List.getElem_mem hi)).2.2 b k hf).elim
 ·letI : Bs:=⟨w⟩
  have hr':=lR hr
  subst hr'
  exact ⟨hD.ends,(hD.ext.mono (S':=fun _ _=>False) fun b k ⟨x,hx,hf⟩ _=>(hcs x hx).2.2 b k hf).below⟩
theorem Kj {t : TypeId} {a : iT} (h : mV P t = some a) : ∃ n deep ts,fo P n deep t = some ts:=by
 unfold mV at h
 split at h
 ·simp only [Option.map_eq_some_iff] at h
  obtain ⟨ts,ht,_⟩:=h
  exact ⟨_,_,ts,ht⟩
 ·rename_i hu; exact ⟨1,true,[.bool],by simp [fo,hu]⟩
 ·rename_i k hu; exact ⟨1,true,[.int k],by simp [fo,hu]⟩
 ·rename_i hu; exact ⟨1,true,[.str],by simp [fo,hu]⟩
 ·simp only [Option.bind_eq_some_iff] at h
  obtain ⟨ts,ht,_⟩:=h
  exact ⟨_,_,ts,ht⟩
 ·cases h
theorem WB {w' : World} (hb : Below w.heap.size w w') : ∀ {ts : List TypeId} {as : List iT} {vs : List Value} {ds : List (DataW H)} {p : List MemPlace},ts.map (mV P) = as.map some →
  DataW.TrodAll enc P w 0 (fun _=>true) held ts vs ds p→DataW.TrodAll enc P w' 0 (fun b=>decide (b < w.heap.size)) held ts vs ds p
 | [],[],[],[],_,_,h=>h
 | t :: ts,a :: as,v :: vs,d :: ds,_,ha,⟨p,q,⟨fuel,h1⟩,h2,e⟩=>by
  simp only [List.map_cons,List.cons.injEq] at ha
  obtain ⟨n,deep,tt,ht⟩:=Kj ha.1
  have h3:=DQ n deep t tt ht _ _ _ h1
  exact ⟨p,q,⟨fuel,DataW.trod_carry _ _ _ _ h3 fun m hm=>hb.same (DataW.trod_lt _ _ _ _ h3 m hm)⟩,WB hb ha.2 h2,e⟩
end
end M
namespace M
open Go
def cX (ts : List Ty) (r : List X) : Prop:=r.length = ts.length∧∀ (j : Nat) ty x,ts[j]? = some ty→r[j]? = some x→fq ty x
theorem cX.nil {r : List X} (h : cX [] r) : r = []:=List.length_eq_zero_iff.1 h.1
theorem cX.cons {ty : Ty} {ts : List Ty} {r : List X} (h : cX (ty :: ts) r) : ∃ x r',r = x :: r'∧fq ty x∧cX ts r':=by
 obtain ⟨h1,h2⟩:=h
 cases r with
 | nil=>cases h1
 | cons x r=>exact ⟨x,r,rfl,h2 0 ty x rfl rfl,by simpa using h1,fun j ty x ht hx=>h2 (j + 1) ty x (by simpa using ht) (by simpa using hx)⟩
theorem jz {x : X} (h : fq .str x) : ∃ s : ah,x = .str ⟨s.toArray⟩∧s.length≤9223372036854775807:=by
 cases h with
 | str h=>rename_i s; exact ⟨s.data.toList,by simp,by rw [Array.length_toList]; exact h⟩
theorem Kw {n : Int} (h : (Lit.int .i64 n).wf = true) : -9223372036854775808≤n∧n≤9223372036854775807:=by
 have h' : (decide (IntKind.i64.min≤n) && decide (n≤IntKind.i64.max)) = true:=h
 rw [Bool.and_eq_true,decide_eq_true_eq,decide_eq_true_eq] at h'
 exact h'
theorem kn {x : X} (h : fq (.int .i64) x) : ∃ n : Int,x = .int .i64 n∧-9223372036854775808≤n∧n≤9223372036854775807:=by
 cases h with
 | int h =>
  rename_i n
  refine ⟨n,rfl,?_⟩
  exact Kw h
theorem GS {α : Type} {e : α→List X} {ok : α→Prop} : ∀ {xs : List (List X)},(∀ r∈xs,∃ a,r = e a∧ok a)→∃ l : List α,xs = l.map e∧∀ a∈l,ok a
 | [],_=>⟨[],rfl,fun _ h=>by cases h⟩
 | r :: xs,h=>by
  obtain ⟨a,e1,e2⟩:=h r (List.mem_cons_self ..)
  obtain ⟨l,e3,e4⟩:=GS (fun r hr=>h r (List.mem_cons_of_mem _ hr))
  refine ⟨a :: l,by simp [e1,e3],fun b hb=>?_⟩
  rcases List.mem_cons.1 hb with rfl | hb
  ·exact e2
  ·exact e4 b hb
theorem nu {α : Type} (e : α→List X) (ok : α→Prop) {ts : List Ty} {x : X} (h : fq (.row ts) x) (hr : ∀ r,cX ts r→∃ a,r = e a∧ok a) : ∃ l : List α,x = .row .sl ts.length (l.map e)∧l.length≤9223372036854775807∧∀ a∈l,ok a:=by
 cases h with
 | row h1 h2 h3 =>
  rename_i xs
  obtain ⟨l,rfl,hl⟩:=GS (e:=e) (ok:=ok) (xs:=xs) fun r hr'=>hr r ⟨h2 r hr',h3 r hr'⟩
  rw [List.length_map] at h1
  exact ⟨l,rfl,h1,hl⟩
theorem E6 {tys : List Ty} {x : X} (h : j8 (.agg tys) x) : ∃ l,x = .agg l∧cX tys l:=by
 cases h with
 | agg h1 h2=>exact ⟨_,rfl,h1,h2⟩
theorem XW {a : iT} {as : List iT} {xs : List X} (h : ow (a :: as) xs) : ∃ x xs',xs = x :: xs'∧j8 a x∧ow as xs':=by
 match xs,h with
 | x :: xs',⟨h1,h2⟩=>exact ⟨x,xs',rfl,h1,h2⟩
theorem XX {xs : List X} (h : ow [] xs) : xs = []:=by
 match xs,h with
 | [],_=>rfl
structure WS (d : cg) : Prop where
 hb : d.cells.length≤9223372036854775807
 hs : ∀ s∈d.cells,s.length≤9223372036854775807
 hb' : d.pending.length≤9223372036854775807
 hs' : ∀ s∈d.pending,s.text.length≤9223372036854775807
 hi : ∀ s∈d.pending,-9223372036854775808≤s.at_∧s.at_≤9223372036854775807
end M
namespace M
open Go
end M
namespace M
open Go
theorem DU (m : Nat) (h : m < 256) : mK [[.int .u8 (m : Int)]] = some [UInt8.ofNat m]:=by
 have:=Is [UInt8.ofNat m]
 have e : ((UInt8.ofNat m).toNat : Int) = m:=by
  rw [UInt8.toNat_ofNat']
  omega
 simp only [List.map_cons,List.map_nil,e] at this
 exact this
theorem zA {n : Int} (h1 : 0≤n) (h2 : n < 256) : IntKind.u8.wrap n = n:=by
 simp only [IntKind.wrap,IntKind.signed,IntKind.bits,Bool.false_and,Bool.false_eq_true,if_false]
 omega
def bn (n : Nat) : ah:=Lib.decDigits n
theorem G4 : ∀ (n : Nat) (out : ah),n≠0→gG n out = bn n ++ out:=by
 intro n
 induction n using Nat.strongRecOn with
 | ind n ih =>
  intro out h
  unfold gG bn
  rw [dif_neg h,Lib.decDigits]
  by_cases h1 : n < 10
  ·have e : n / 10 = 0:=by omega
   have e2 : n % 10 = n:=by omega
   rw [dif_pos h1,e,e2]
   unfold gG
   rw [dif_pos rfl]
   rfl
  ·rw [dif_neg h1,ih (n / 10) (by omega) _ (by omega)]
   unfold bn
   rw [List.append_assoc]
   rfl
theorem Fb : bn 0 = [48]:=by unfold bn; rw [Lib.decDigits]; rfl
theorem ko (k : Nat) : ∀ (n : Nat),n < 10 ^ (k + 1)→(bn n).length≤k + 1:=by
 induction k with
 | zero =>
  intro n h
  unfold bn
  rw [Lib.decDigits,dif_pos (by simpa using h)]
  simp
 | succ k ih =>
  intro n h
  unfold bn
  rw [Lib.decDigits]
  by_cases h1 : n < 10
  ·rw [dif_pos h1]; simp
  ·rw [dif_neg h1,List.length_append]
   have:=ih (n / 10) (by rw [Nat.pow_succ] at h; omega)
   unfold bn at this
   simp only [List.length_cons,List.length_nil]
   omega
theorem Rd (n : Nat) : Lib.itoa (n : Int) = bn n:=by
 unfold Lib.itoa bn
 rw [if_neg (by omega)]
 rfl
def sF : List X→Option X
 | [.int .i64 n]=>if -9223372036854775808≤n∧n≤9223372036854775807 then some (.str ⟨(Go.Lib.itoa n).toArray⟩) else none
 | _=>none
theorem Rb (f : FuncId) (n : Nat) (h : n < 10 ^ 18) : gH f sF f [.int .i64 (n : Int)] = some (.str ⟨(bn n).toArray⟩,[.dead]):=by
 have h1 : (n : Int)≤9223372036854775807:=by omega
 have h2:=ko 17 n (by omega)
 simp [gH,sF,Rd,scalar,uP,h1]
 omega
end M
namespace M
open Go
def wS (s : ah) : Nat:=s.length
def wL {α : Type} (w : α→Nat) (l : List α) : Nat:=l.length + (l.map w).sum
theorem gL {α : Type} {w : α→Nat} : ∀ {l : List α} {a : α},a∈l→w a≤wL w l
 | b :: l,a,h=>by
  rcases List.mem_cons.1 h with rfl | h
  ·simp [wL]; omega
  ·have:=gL (w:=w) h
   simp [wL] at this ⊢; omega
theorem aY {α : Type} {w : α→Nat} (l : List α) : l.length≤wL w l:=by unfold wL; omega
def aH (n : Int) (w : Nat) : Int:=if (w : Int)≤n then n - w else -1
theorem cj (n : Int) (w : Nat) : ((w : Int)≤n∧aH n w = n - w)∨(n < (w : Int)∧aH n w = -1):=by
 unfold aH
 split
 ·exact .inl ⟨by assumption,rfl⟩
 ·exact .inr ⟨by omega,rfl⟩
theorem uM (w : Nat) (n : Int) : aH n w≤n∨aH n w < 0:=by have:=cj n w; omega
theorem qm {α : Type} (w : α→Nat) : ∀ (l : List α) (n : Int),0≤n→dM (fun b n=>aH n (w b)) l n = aH n (l.map w).sum
 | [],n,h=>by simp [dM,aH,h]
 | b :: l,n,h=>by
  simp only [dM,List.map_cons,List.sum_cons]
  rcases cj n (w b) with ⟨h1,h2⟩ | ⟨h1,h2⟩
  ·rw [if_neg (by omega),qm w l _ (by omega),h2]
   rcases cj (n - w b) (l.map w).sum with ⟨h3,h4⟩ | ⟨h3,h4⟩ <;> rcases cj n (w b + (l.map w).sum) with ⟨h5,h6⟩ | ⟨h5,h6⟩ <;> omega
  ·rw [if_pos (by omega)]
   rcases cj n (w b + (l.map w).sum) with ⟨h5,h6⟩ | ⟨h5,h6⟩ <;> omega
def bI (n : Int) : Prop:=-9223372036854775808≤n∧n≤9223372036854775807
def bS (s : ah) : Prop:=s.length≤9223372036854775807
def bB (_ : Bool) : Prop:=True
def bL {α : Type} (b : α→Prop) (l : List α) : Prop:=l.length≤9223372036854775807∧∀ a∈l,b a
@[simp] def eI (n : Int) : List X:=[.int .i64 n]
@[simp] theorem Zo (m : Md) (l : List Int) : X.bz m (l.map eI) = l.map eI:=by induction l <;> simp_all [X.bz,X.cC,X.md]
@[simp] theorem Xz (l : List Int) : X.clean.aX (l.map eI) = true:=by induction l <;> simp_all [X.clean.aX,X.clean.bG,X.clean]
structure aL where
 name : ah
 value : ah
 deriving DecidableEq
@[simp] def aI (a : aL) : List X:=[.str ⟨(a.name).toArray⟩,.str ⟨(a.value).toArray⟩]
@[simp] theorem Zn (m : Md) (l : List aL) : X.bz m (l.map aI) = l.map aI:=by induction l <;> simp_all [X.bz,X.cC,X.md]
@[simp] theorem Xy (l : List aL) : X.clean.aX (l.map aI) = true:=by induction l <;> simp_all [X.clean.aX,X.clean.bG,X.clean]
def aM (a : aL) : Nat:=a.name.length + a.value.length
structure mX (x : aL) : Prop where
 Rj : bS x.name
 Rr : bS x.value
theorem MK (a b : aL) : decide (a = b) = (decide (a.name = b.name) && decide (a.value = b.value)):=by
 cases a; cases b; simp [Bool.and_assoc]
structure bY where
 status : Int
 fields : List aL
 body : ah
 deriving DecidableEq
@[simp] def dS (m : Md) (a : bY) : List X:=[.int .i64 a.status,.row m 2 ((a.fields).map aI),.str ⟨(a.body).toArray⟩]
@[simp] theorem Zt (m m' : Md) (l : List bY) : X.bz m (l.map (dS m')) = l.map (dS m):=by induction l <;> simp_all [X.bz,X.cC,X.md]
@[simp] theorem XE (l : List bY) : X.clean.aX (l.map (dS .own)) = true:=by induction l <;> simp_all [X.clean.aX,X.clean.bG,X.clean]
@[simp] theorem XS (l : List bY) : X.clean.aX (l.map (dS .sl)) = true:=by induction l <;> simp_all [X.clean.aX,X.clean.bG,X.clean]
def bD (a : bY) : Nat:=wL aM a.fields + a.body.length
structure oB (x : bY) : Prop where
 Y6 : bI x.status
 GJ : (bL mX) x.fields
 GI : bS x.body
theorem MO (a b : bY) : decide (a = b) = (decide (a.status = b.status) && decide (a.fields = b.fields) && decide (a.body = b.body)):=by
 cases a; cases b; simp [Bool.and_assoc]
structure Rq where
 method : Int
 path : ah
 fields : List aL
 body : ah
 deriving DecidableEq
@[simp] def vE (m : Md) (a : Rq) : List X:=[.int .i64 a.method,.str ⟨(a.path).toArray⟩,.row m 2 ((a.fields).map aI),.str ⟨(a.body).toArray⟩]
@[simp] theorem Zs (m m' : Md) (l : List Rq) : X.bz m (l.map (vE m')) = l.map (vE m):=by induction l <;> simp_all [X.bz,X.cC,X.md]
@[simp] theorem XD (l : List Rq) : X.clean.aX (l.map (vE .own)) = true:=by induction l <;> simp_all [X.clean.aX,X.clean.bG,X.clean]
@[simp] theorem XR (l : List Rq) : X.clean.aX (l.map (vE .sl)) = true:=by induction l <;> simp_all [X.clean.aX,X.clean.bG,X.clean]
structure vm (x : Rq) : Prop where
 YZ : bI x.method
 GM : bS x.path
 GJ : (bL mX) x.fields
 GI : bS x.body
structure Ob where
 path : ah
 names : List ah
 values : List ah
 resp : bY
 t : Int
 deriving DecidableEq
@[simp] def bq (m : Md) (a : Ob) : List X:=[.str ⟨(a.path).toArray⟩,.row m 1 ((a.names).map eS),.row m 1 ((a.values).map eS),.int .i64 a.resp.status,.row m 2 ((a.resp.fields).map aI),.str ⟨(a.resp.body).toArray⟩,.int .i64 a.t]
@[simp] theorem Zq (m m' : Md) (l : List Ob) : X.bz m (l.map (bq m')) = l.map (bq m):=by induction l <;> simp_all [X.bz,X.cC,X.md]
@[simp] theorem XB (l : List Ob) : X.clean.aX (l.map (bq .own)) = true:=by induction l <;> simp_all [X.clean.aX,X.clean.bG,X.clean]
@[simp] theorem XP (l : List Ob) : X.clean.aX (l.map (bq .sl)) = true:=by induction l <;> simp_all [X.clean.aX,X.clean.bG,X.clean]
def aU (a : Ob) : Nat:=a.path.length + wL wS a.names + wL wS a.values + bD a.resp
structure mY (x : Ob) : Prop where
 GM : bS x.path
 Rk : (bL bS) x.names
 Rs : (bL bS) x.values
 xh : oB x.resp
 BF : bI x.t
theorem MN (a b : Ob) : decide (a = b) = (decide (a.path = b.path) && decide (a.names = b.names) && decide (a.values = b.values) && decide (a.resp = b.resp) && decide (a.t = b.t)):=by
 cases a; cases b; simp [Bool.and_assoc]
structure Kp where
 obj : Ob
 at_ : Int
 seq : Int
 deriving DecidableEq
@[simp] def aB (m : Md) (a : Kp) : List X:=[.str ⟨(a.obj.path).toArray⟩,.row m 1 ((a.obj.names).map eS),.row m 1 ((a.obj.values).map eS),.int .i64 a.obj.resp.status,.row m 2 ((a.obj.resp.fields).map aI),.str ⟨(a.obj.resp.body).toArray⟩,.int .i64 a.obj.t,.int .i64 a.at_,.int .i64 a.seq]
@[simp] theorem Zp (m m' : Md) (l : List Kp) : X.bz m (l.map (aB m')) = l.map (aB m):=by induction l <;> simp_all [X.bz,X.cC,X.md]
@[simp] theorem XA (l : List Kp) : X.clean.aX (l.map (aB .own)) = true:=by induction l <;> simp_all [X.clean.aX,X.clean.bG,X.clean]
@[simp] theorem XO (l : List Kp) : X.clean.aX (l.map (aB .sl)) = true:=by induction l <;> simp_all [X.clean.aX,X.clean.bG,X.clean]
def aR (a : Kp) : Nat:=aU a.obj
structure oA (x : Kp) : Prop where
 GL : mY x.obj
 Re : bI x.at_
 Rn : bI x.seq
theorem ML (a b : Kp) : decide (a = b) = (decide (a.obj = b.obj) && decide (a.at_ = b.at_) && decide (a.seq = b.seq)):=by
 cases a; cases b; simp [Bool.and_assoc]
def br (a : Wr) : Nat:=a.text.length
structure oC (x : Wr) : Prop where
 Re : bI x.at_
 Ro : bS x.text
theorem MQ (a b : Wr) : decide (a = b) = (decide (a.at_ = b.at_) && decide (a.text = b.text)):=by
 cases a; cases b; simp [Bool.and_assoc]
def bN (a : cg) : Nat:=wL wS a.cells + wL br a.pending
structure zM (x : cg) : Prop where
 Rg : (bL bS) x.cells
 Rm : (bL oC) x.pending
theorem MJ (a b : cg) : decide (a = b) = (decide (a.cells = b.cells) && decide (a.pending = b.pending)):=by
 cases a; cases b; simp [Bool.and_assoc]
structure Bn where
 kind : Int
 a : ah
 b : ah
 t : Int
 deriving DecidableEq
@[simp] def aQ (a : Bn) : List X:=[.int .i64 a.kind,.str ⟨(a.a).toArray⟩,.str ⟨(a.b).toArray⟩,.int .i64 a.t]
@[simp] theorem Zj (m : Md) (l : List Bn) : X.bz m (l.map aQ) = l.map aQ:=by induction l <;> simp_all [X.bz,X.cC,X.md]
@[simp] theorem Xu (l : List Bn) : X.clean.aX (l.map aQ) = true:=by induction l <;> simp_all [X.clean.aX,X.clean.bG,X.clean]
def aP (a : Bn) : Nat:=a.a.length + a.b.length
structure mW (x : Bn) : Prop where
 GK : bI x.kind
 GG : bS x.a
 Rf : bS x.b
 BF : bI x.t
theorem MI (a b : Bn) : decide (a = b) = (decide (a.kind = b.kind) && decide (a.a = b.a) && decide (a.b = b.b) && decide (a.t = b.t)):=by
 cases a; cases b; simp [Bool.and_assoc]
structure Sh where
 aE : cg
 ay : List Kp
 aJ : List Bn
 next : Int
 seq : Int
 deriving DecidableEq
@[simp] def bk (m : Md) (a : Sh) : List X:=[.row m 1 ((a.aE.cells).map eS),.row m 2 ((a.aE.pending).map eW),.row m 9 ((a.ay).map (aB m)),.row m 4 ((a.aJ).map aQ),.int .i64 a.next,.int .i64 a.seq]
@[simp] theorem Zw (m m' : Md) (l : List Sh) : X.bz m (l.map (bk m')) = l.map (bk m):=by induction l <;> simp_all [X.bz,X.cC,X.md]
@[simp] theorem XH (l : List Sh) : X.clean.aX (l.map (bk .own)) = true:=by induction l <;> simp_all [X.clean.aX,X.clean.bG,X.clean]
@[simp] theorem XU (l : List Sh) : X.clean.aX (l.map (bk .sl)) = true:=by induction l <;> simp_all [X.clean.aX,X.clean.bG,X.clean]
def bF (a : Sh) : Nat:=bN a.aE + wL aR a.ay + wL aP a.aJ
structure qK (x : Sh) : Prop where
 Ri : zM x.aE
 Rl : (bL oA) x.ay
 GH : (bL mW) x.aJ
 Y0 : bI x.next
 Rn : bI x.seq
theorem MP (a b : Sh) : decide (a = b) = (decide (a.aE = b.aE) && decide (a.ay = b.ay) && decide (a.aJ = b.aJ) && decide (a.next = b.next) && decide (a.seq = b.seq)):=by
 cases a; cases b; simp [Bool.and_assoc]
structure Fl where
 q : Rq
 who : List Int
 old : Ob
 AN : Bool
 deriving DecidableEq
@[simp] def qV (m : Md) (a : Fl) : List X:=[.int .i64 a.q.method,.str ⟨(a.q.path).toArray⟩,.row m 2 ((a.q.fields).map aI),.str ⟨(a.q.body).toArray⟩,.row m 1 ((a.who).map eI),.str ⟨(a.old.path).toArray⟩,.row m 1 ((a.old.names).map eS),.row m 1 ((a.old.values).map eS),.int .i64 a.old.resp.status,.row m 2 ((a.old.resp.fields).map aI),.str ⟨(a.old.resp.body).toArray⟩,.int .i64 a.old.t,.bool a.AN]
@[simp] theorem Zm (m m' : Md) (l : List Fl) : X.bz m (l.map (qV m')) = l.map (qV m):=by induction l <;> simp_all [X.bz,X.cC,X.md]
@[simp] theorem Xx (l : List Fl) : X.clean.aX (l.map (qV .own)) = true:=by induction l <;> simp_all [X.clean.aX,X.clean.bG,X.clean]
@[simp] theorem XM (l : List Fl) : X.clean.aX (l.map (qV .sl)) = true:=by induction l <;> simp_all [X.clean.aX,X.clean.bG,X.clean]
structure Km (x : Fl) : Prop where
 BE : vm x.q
 Y7 : (bL bI) x.who
 Y2 : mY x.old
 YX : bB x.AN
structure Se where
 q : Rq
 resp : bY
 t : Int
 deriving DecidableEq
@[simp] def qX (m : Md) (a : Se) : List X:=[.int .i64 a.q.method,.str ⟨(a.q.path).toArray⟩,.row m 2 ((a.q.fields).map aI),.str ⟨(a.q.body).toArray⟩,.int .i64 a.resp.status,.row m 2 ((a.resp.fields).map aI),.str ⟨(a.resp.body).toArray⟩,.int .i64 a.t]
@[simp] theorem Zv (m m' : Md) (l : List Se) : X.bz m (l.map (qX m')) = l.map (qX m):=by induction l <;> simp_all [X.bz,X.cC,X.md]
@[simp] theorem XG (l : List Se) : X.clean.aX (l.map (qX .own)) = true:=by induction l <;> simp_all [X.clean.aX,X.clean.bG,X.clean]
@[simp] theorem XT (l : List Se) : X.clean.aX (l.map (qX .sl)) = true:=by induction l <;> simp_all [X.clean.aX,X.clean.bG,X.clean]
structure Ko (x : Se) : Prop where
 BE : vm x.q
 xh : oB x.resp
 BF : bI x.t
structure Rp where
 client : Int
 q : Rq
 resp : bY
 kind : Int
 t : Int
 obj : Ob
 aJ : Int
 deriving DecidableEq
@[simp] def qW (m : Md) (a : Rp) : List X:=[.int .i64 a.client,.int .i64 a.q.method,.str ⟨(a.q.path).toArray⟩,.row m 2 ((a.q.fields).map aI),.str ⟨(a.q.body).toArray⟩,.int .i64 a.resp.status,.row m 2 ((a.resp.fields).map aI),.str ⟨(a.resp.body).toArray⟩,.int .i64 a.kind,.int .i64 a.t,.str ⟨(a.obj.path).toArray⟩,.row m 1 ((a.obj.names).map eS),.row m 1 ((a.obj.values).map eS),.int .i64 a.obj.resp.status,.row m 2 ((a.obj.resp.fields).map aI),.str ⟨(a.obj.resp.body).toArray⟩,.int .i64 a.obj.t,.int .i64 a.aJ]
@[simp] theorem Zr (m m' : Md) (l : List Rp) : X.bz m (l.map (qW m')) = l.map (qW m):=by induction l <;> simp_all [X.bz,X.cC,X.md]
@[simp] theorem XC (l : List Rp) : X.clean.aX (l.map (qW .own)) = true:=by induction l <;> simp_all [X.clean.aX,X.clean.bG,X.clean]
@[simp] theorem XQ (l : List Rp) : X.clean.aX (l.map (qW .sl)) = true:=by induction l <;> simp_all [X.clean.aX,X.clean.bG,X.clean]
structure Kn (x : Rp) : Prop where
 Rh : bI x.client
 BE : vm x.q
 xh : oB x.resp
 GK : bI x.kind
 BF : bI x.t
 GL : mY x.obj
 GH : bI x.aJ
structure Ca where
 iu : Sh
 q6 : List Fl
 now : Int
 seen : List Se
 sent : List Rp
 deriving DecidableEq
@[simp] def vC (m : Md) (a : Ca) : List X:=[.row m 1 ((a.iu.aE.cells).map eS),.row m 2 ((a.iu.aE.pending).map eW),.row m 9 ((a.iu.ay).map (aB m)),.row m 4 ((a.iu.aJ).map aQ),.int .i64 a.iu.next,.int .i64 a.iu.seq,.row m 13 ((a.q6).map (qV m)),.int .i64 a.now,.row m 8 ((a.seen).map (qX m)),.row m 18 ((a.sent).map (qW m))]
@[simp] theorem Zk (m m' : Md) (l : List Ca) : X.bz m (l.map (vC m')) = l.map (vC m):=by induction l <;> simp_all [X.bz,X.cC,X.md]
@[simp] theorem Xv (l : List Ca) : X.clean.aX (l.map (vC .own)) = true:=by induction l <;> simp_all [X.clean.aX,X.clean.bG,X.clean]
@[simp] theorem XK (l : List Ca) : X.clean.aX (l.map (vC .sl)) = true:=by induction l <;> simp_all [X.clean.aX,X.clean.bG,X.clean]
structure W7 (x : Ca) : Prop where
 Y5 : qK x.iu
 YW : (bL Km) x.q6
 Y1 : bI x.now
 Y3 : (bL Ko) x.seen
 Y4 : (bL Kn) x.sent
structure De where
 kind : Int
 client : Int
 q : Rq
 a : Int
 resp : bY
 lG : Bn
 keep : List Bool
 deriving DecidableEq
@[simp] def vD (m : Md) (a : De) : List X:=[.int .i64 a.kind,.int .i64 a.client,.int .i64 a.q.method,.str ⟨(a.q.path).toArray⟩,.row m 2 ((a.q.fields).map aI),.str ⟨(a.q.body).toArray⟩,.int .i64 a.a,.int .i64 a.resp.status,.row m 2 ((a.resp.fields).map aI),.str ⟨(a.resp.body).toArray⟩,.int .i64 a.lG.kind,.str ⟨(a.lG.a).toArray⟩,.str ⟨(a.lG.b).toArray⟩,.int .i64 a.lG.t,.row m 1 ((a.keep).map eB)]
@[simp] theorem Zl (m m' : Md) (l : List De) : X.bz m (l.map (vD m')) = l.map (vD m):=by induction l <;> simp_all [X.bz,X.cC,X.md]
@[simp] theorem Xw (l : List De) : X.clean.aX (l.map (vD .own)) = true:=by induction l <;> simp_all [X.clean.aX,X.clean.bG,X.clean]
@[simp] theorem XL (l : List De) : X.clean.aX (l.map (vD .sl)) = true:=by induction l <;> simp_all [X.clean.aX,X.clean.bG,X.clean]
structure W8 (x : De) : Prop where
 GK : bI x.kind
 Rh : bI x.client
 BE : vm x.q
 GG : bI x.a
 xh : oB x.resp
 YV : mW x.lG
 YY : (bL bB) x.keep
theorem MD {ts : List Ty} {l : List X} (h : cX ([.str,.str] ++ ts) l) : ∃ (a : aL) (l' : List X),l = aI a ++ l'∧mX a∧cX ts l':=by
 simp only [List.cons_append,List.nil_append] at h
 obtain ⟨y1,r1,rfl,c1,h1⟩:=h.cons
 obtain ⟨a1,rfl,b1⟩:=jz c1
 obtain ⟨y2,r2,rfl,c2,h2⟩:=h1.cons
 obtain ⟨a2,rfl,b2⟩:=jz c2
 exact ⟨⟨a1,a2⟩,r2,by simp,⟨b1,b2⟩,h2⟩
theorem MF {ts : List Ty} {l : List X} (h : cX ([.int .i64,.row [.str,.str],.str] ++ ts) l) : ∃ (a : bY) (l' : List X),l = dS .sl a ++ l'∧oB a∧cX ts l':=by
 simp only [List.cons_append,List.nil_append] at h
 obtain ⟨y1,r1,rfl,c1,h1⟩:=h.cons
 obtain ⟨a1,rfl,b1⟩:=kn c1
 obtain ⟨y2,r2,rfl,c2,h2⟩:=h1.cons
 obtain ⟨a2,rfl,b2⟩:=nu aI mX c2 fun r hr=>by
  obtain ⟨a,l',rfl,h1,h2⟩:=MD (ts:=[]) (by simpa using hr)
  obtain rfl:=h2.nil
  exact ⟨a,by simp,h1⟩
 obtain ⟨y3,r3,rfl,c3,h3⟩:=h2.cons
 obtain ⟨a3,rfl,b3⟩:=jz c3
 exact ⟨⟨a1,a2,a3⟩,r3,by simp,⟨b1,b2,b3⟩,h3⟩
def TU : List Ty:=[.str,.row [.str],.row [.str],.int .i64,.row [.str,.str],.str,.int .i64]
theorem E7 {ts : List Ty} {l : List X} (h : cX ([.str,.row [.str],.row [.str],.int .i64,.row [.str,.str],.str,.int .i64] ++ ts) l) : ∃ (a : Ob) (l' : List X),l = bq .sl a ++ l'∧mY a∧cX ts l':=by
 simp only [List.cons_append,List.nil_append] at h
 obtain ⟨y1,r1,rfl,c1,h1⟩:=h.cons
 obtain ⟨a1,rfl,b1⟩:=jz c1
 obtain ⟨y2,r2,rfl,c2,h2⟩:=h1.cons
 obtain ⟨a2,rfl,b2⟩:=nu eS bS c2 fun r hr=>by
  obtain ⟨x,r',rfl,h1,h2⟩:=hr.cons
  obtain rfl:=h2.nil
  obtain ⟨s,rfl,hs⟩:=jz h1
  exact ⟨s,rfl,hs⟩
 obtain ⟨y3,r3,rfl,c3,h3⟩:=h2.cons
 obtain ⟨a3,rfl,b3⟩:=nu eS bS c3 fun r hr=>by
  obtain ⟨x,r',rfl,h1,h2⟩:=hr.cons
  obtain rfl:=h2.nil
  obtain ⟨s,rfl,hs⟩:=jz h1
  exact ⟨s,rfl,hs⟩
 obtain ⟨a4,r4,rfl,b4,h4⟩:=MF (ts:=_) h3
 obtain ⟨y5,r5,rfl,c5,h5⟩:=h4.cons
 obtain ⟨a5,rfl,b5⟩:=kn c5
 exact ⟨⟨a1,a2,a3,a4,a5⟩,r5,by simp,⟨b1,b2,b3,b4,b5⟩,h5⟩
theorem XY {x : X} (h : j8 (.agg TU) x) : ∃ a,x = .agg (bq .sl a)∧mY a:=by
 obtain ⟨l,rfl,hl⟩:=E6 h
 obtain ⟨a,l',rfl,h1,h2⟩:=E7 (ts:=[]) (l:=l) (by rw [List.append_nil]; exact hl)
 obtain rfl:=h2.nil
 exact ⟨a,by simp,h1⟩
theorem ME {ts : List Ty} {l : List X} (h : cX ([.str,.row [.str],.row [.str],.int .i64,.row [.str,.str],.str,.int .i64,.int .i64,.int .i64] ++ ts) l) : ∃ (a : Kp) (l' : List X),l = aB .sl a ++ l'∧oA a∧cX ts l':=by
 simp only [List.cons_append,List.nil_append] at h
 obtain ⟨a1,r1,rfl,b1,h1⟩:=E7 (ts:=_) h
 obtain ⟨y2,r2,rfl,c2,h2⟩:=h1.cons
 obtain ⟨a2,rfl,b2⟩:=kn c2
 obtain ⟨y3,r3,rfl,c3,h3⟩:=h2.cons
 obtain ⟨a3,rfl,b3⟩:=kn c3
 exact ⟨⟨a1,a2,a3⟩,r3,by simp,⟨b1,b2,b3⟩,h3⟩
theorem MH {ts : List Ty} {l : List X} (h : cX ([.int .i64,.str] ++ ts) l) : ∃ (a : Wr) (l' : List X),l = eW a ++ l'∧oC a∧cX ts l':=by
 simp only [List.cons_append,List.nil_append] at h
 obtain ⟨y1,r1,rfl,c1,h1⟩:=h.cons
 obtain ⟨a1,rfl,b1⟩:=kn c1
 obtain ⟨y2,r2,rfl,c2,h2⟩:=h1.cons
 obtain ⟨a2,rfl,b2⟩:=jz c2
 exact ⟨⟨a1,a2⟩,r2,by simp,⟨b1,b2⟩,h2⟩
theorem MC {ts : List Ty} {l : List X} (h : cX ([.row [.str],.row [.int .i64,.str]] ++ ts) l) : ∃ (a : cg) (l' : List X),l = cu .sl a ++ l'∧zM a∧cX ts l':=by
 simp only [List.cons_append,List.nil_append] at h
 obtain ⟨y1,r1,rfl,c1,h1⟩:=h.cons
 obtain ⟨a1,rfl,b1⟩:=nu eS bS c1 fun r hr=>by
  obtain ⟨x,r',rfl,h1,h2⟩:=hr.cons
  obtain rfl:=h2.nil
  obtain ⟨s,rfl,hs⟩:=jz h1
  exact ⟨s,rfl,hs⟩
 obtain ⟨y2,r2,rfl,c2,h2⟩:=h1.cons
 obtain ⟨a2,rfl,b2⟩:=nu eW oC c2 fun r hr=>by
  obtain ⟨a,l',rfl,h1,h2⟩:=MH (ts:=[]) (by simpa using hr)
  obtain rfl:=h2.nil
  exact ⟨a,by simp,h1⟩
 exact ⟨⟨a1,a2⟩,r2,by simp,⟨b1,b2⟩,h2⟩
theorem MB {ts : List Ty} {l : List X} (h : cX ([.int .i64,.str,.str,.int .i64] ++ ts) l) : ∃ (a : Bn) (l' : List X),l = aQ a ++ l'∧mW a∧cX ts l':=by
 simp only [List.cons_append,List.nil_append] at h
 obtain ⟨y1,r1,rfl,c1,h1⟩:=h.cons
 obtain ⟨a1,rfl,b1⟩:=kn c1
 obtain ⟨y2,r2,rfl,c2,h2⟩:=h1.cons
 obtain ⟨a2,rfl,b2⟩:=jz c2
 obtain ⟨y3,r3,rfl,c3,h3⟩:=h2.cons
 obtain ⟨a3,rfl,b3⟩:=jz c3
 obtain ⟨y4,r4,rfl,c4,h4⟩:=h3.cons
 obtain ⟨a4,rfl,b4⟩:=kn c4
 exact ⟨⟨a1,a2,a3,a4⟩,r4,by simp,⟨b1,b2,b3,b4⟩,h4⟩
def TV : List Ty:=[.row [.str],.row [.int .i64,.str],.row [.str,.row [.str],.row [.str],.int .i64,.row [.str,.str],.str,.int .i64,.int .i64,.int .i64],.row [.int .i64,.str,.str,.int .i64],.int .i64,.int .i64]
theorem MG {ts : List Ty} {l : List X} (h : cX ([.row [.str],.row [.int .i64,.str],.row [.str,.row [.str],.row [.str],.int .i64,.row [.str,.str],.str,.int .i64,.int .i64,.int .i64],.row [.int .i64,.str,.str,.int .i64],.int .i64,.int .i64] ++ ts) l) : ∃ (a : Sh) (l' : List X),l = bk .sl a ++ l'∧qK a∧cX ts l':=by
 simp only [List.cons_append,List.nil_append] at h
 obtain ⟨a1,r1,rfl,b1,h1⟩:=MC (ts:=_) h
 obtain ⟨y2,r2,rfl,c2,h2⟩:=h1.cons
 obtain ⟨a2,rfl,b2⟩:=nu (aB .sl) oA c2 fun r hr=>by
  obtain ⟨a,l',rfl,h1,h2⟩:=ME (ts:=[]) (by simpa using hr)
  obtain rfl:=h2.nil
  exact ⟨a,by simp,h1⟩
 obtain ⟨y3,r3,rfl,c3,h3⟩:=h2.cons
 obtain ⟨a3,rfl,b3⟩:=nu aQ mW c3 fun r hr=>by
  obtain ⟨a,l',rfl,h1,h2⟩:=MB (ts:=[]) (by simpa using hr)
  obtain rfl:=h2.nil
  exact ⟨a,by simp,h1⟩
 obtain ⟨y4,r4,rfl,c4,h4⟩:=h3.cons
 obtain ⟨a4,rfl,b4⟩:=kn c4
 obtain ⟨y5,r5,rfl,c5,h5⟩:=h4.cons
 obtain ⟨a5,rfl,b5⟩:=kn c5
 exact ⟨⟨a1,a2,a3,a4,a5⟩,r5,by simp,⟨b1,b2,b3,b4,b5⟩,h5⟩
theorem XZ {x : X} (h : j8 (.agg TV) x) : ∃ a,x = .agg (bk .sl a)∧qK a:=by
 obtain ⟨l,rfl,hl⟩:=E6 h
 obtain ⟨a,l',rfl,h1,h2⟩:=MG (ts:=[]) (l:=l) (by rw [List.append_nil]; exact hl)
 obtain rfl:=h2.nil
 exact ⟨a,by simp,h1⟩
end M
namespace M
open Go
def cB {β : Type} (p : β→Bool) : Nat→List β→Option (Nat×β)
 | _,[]=>none
 | i,b :: l=>if p b = true then some (i,b) else cB p (i + 1) l
theorem nw {β : Type} {p : β→Bool} : ∀ {l : List β} {k i : Nat} {b : β},cB p k l = some (i,b)→k≤i∧l[i - k]? = some b∧p b = true
 | b' :: l,k,i,b,h=>by
  unfold cB at h
  split at h
  ·rename_i hp
   cases h
   exact ⟨Nat.le_refl _,by simp,hp⟩
  ·obtain ⟨h1,h2,h3⟩:=nw h
   refine ⟨by omega,?_,h3⟩
   rw [show i - k = (i - (k + 1)) + 1 by omega,List.getElem?_cons_succ]
   exact h2
theorem Aw {β : Type} {p : β→Bool} : ∀ {l : List β} {k : Nat},cB p k l = none↔∀ b∈l,¬ p b = true
 | [],k=>by simp [cB]
 | b' :: l,k=>by
  unfold cB
  by_cases hp : p b' = true
  ·simp [hp]
  ·rw [if_neg hp,Aw]
   simp [hp]
theorem tA {xt : Nat} {β : Type} {f : ag→bM} (l : List β) (st : Nat→ag) (p : β→Bool) (R : Nat→β→ag) (E : ag)
  (h : ∀ i b,l[i]? = some b→i < l.length→f (st i) = if p b = true then some (.ret,R i b) else some (.normal,st (i + 1)))
  (hend : f (st l.length) = some (.exit xt,E)) :
  aK f (st 0) = (cB p 0 l).elim (some (.exit xt,E)) fun x=>some (.ret,R x.1 x.2):=by
 suffices H : ∀ (r : List β) (i : Nat),l.drop i = r→i≤l.length→aK f (st i) = (cB p i r).elim (some (.exit xt,E)) fun x=>some (.ret,R x.1 x.2) from H l 0 rfl (Nat.zero_le _)
 intro r
 induction r with
 | nil =>
  intro i hr hi
  have : i = l.length:=by
   have:=congrArg List.length hr
   simp at this
   omega
  subst this
  rw [gZ,hend]
  rfl
 | cons b r ih =>
  intro i hr hi
  have hb : l[i]? = some b:=by
   have:=congrArg (fun t : List β=>t[0]?) hr
   simpa using this
  have hlt : i < l.length:=(List.getElem?_eq_some_iff.1 hb).1
  have hd : l.drop (i + 1) = r:=by
   have:=congrArg List.tail hr
   simpa using this
  rw [gZ,h i b hb hlt]
  unfold cB
  by_cases hp : p b = true
  ·simp [hp,lv]
  ·simp only [hp]
   exact ih (i + 1) hd hlt
theorem pO {xt : Nat} {β γ : Type} {f : ag→bM} (l : List β) (φ : β→List γ) (st : Nat→List γ→ag) (E : List γ→ag)
  (h : ∀ i b out,l[i]? = some b→i < l.length→out = (l.take i).flatMap φ→f (st i out) = some (.normal,st (i + 1) (out ++ φ b)))
  (hend : ∀ out,out = l.flatMap φ→f (st l.length out) = some (.exit xt,E out)) :
  aK f (st 0 []) = some (.exit xt,E (l.flatMap φ)):=by
 suffices H : ∀ (k i : Nat),i + k = l.length→aK f (st i ((l.take i).flatMap φ)) = some (.exit xt,E (l.flatMap φ)) from H l.length 0 (by omega)
 intro k
 induction k with
 | zero =>
  intro i hi
  obtain rfl : i = l.length:=by omega
  rw [List.take_length,gZ,hend _ rfl]
  rfl
 | succ k ih =>
  intro i hi
  have hlt : i < l.length:=by omega
  rw [gZ,h i l[i] _ (List.getElem?_eq_getElem hlt) hlt rfl]
  have : (l.take i).flatMap φ ++ φ l[i] = (l.take (i + 1)).flatMap φ:=by
   rw [List.take_succ_eq_append_getElem hlt,List.flatMap_append]
   simp
  simp only [this]
  exact ih (i + 1) (by omega)
theorem Ay {β γ : Type} (g : β→γ) (l : List β) : l.flatMap (fun b=>[g b]) = l.map g:=by induction l <;> simp_all
theorem vP {β γ : Type} (g : β→γ) (l : List β) (i : Nat) (h : i≤l.length) : ((l.take i).flatMap (fun b=>[g b])).length = i:=by rw [Ay]; simp; omega
end M
namespace M
open Go
def jl (b : UInt8) : UInt8:=if 65≤b.toNat∧b.toNat≤90 then b + 32 else b
def b8 (s : ah) : ah:=s.map jl
def ot (b : UInt8) : Bool:=decide ((97≤b.toNat∧b.toNat≤122)∨(48≤b.toNat∧b.toNat≤57)∨b.toNat = 45)
def ep (s : ah) : Bool:=aZ ot s && decide (1≤(s.length : Int)∧(s.length : Int)≤20)
def gj (lo : Nat) (b : UInt8) : Bool:=decide (lo≤b.toNat∧b.toNat≤126)
def dx (s : ah) : ah:=Lib.trimB s 32
def gi (s : ah) : Bool:=aZ (gj 32) s && decide (1≤(s.length : Int)∧(s.length : Int)≤60) && decide (dx s = s)
def e9 (n : Int) : ah:=if 0≤n∧n≤1000000 then bn n.toNat else []
def ia (s : ah) : Bool:=aZ (gj 33) s && decide (1≤(s.length : Int)∧(s.length : Int)≤60) && decide (s[0]?.map (fun b : UInt8=>(b.toNat : Int)) = some 47)
theorem Am {α : Type} (p : α→Bool) : ∀ (a b : List α),(∃ x∈a,p x = false)→(a ++ b).dropWhile p = a.dropWhile p ++ b
 | [],b,h=>by simp at h
 | x :: a,b,h=>by
  simp only [List.cons_append,List.dropWhile_cons]
  by_cases hx : p x = true
  ·simp only [hx,if_true]
   refine Am p a b ?_
   obtain ⟨y,hy,hp⟩:=h
   rcases List.mem_cons.1 hy with rfl | hy
   ·rw [hx] at hp; cases hp
   ·exact ⟨y,hy,hp⟩
  ·simp [hx]
theorem Al {α : Type} (p : α→Bool) : ∀ (a : List α),(∀ x∈a,p x = true)→a.dropWhile p = []
 | [],_=>rfl
 | x :: a,h=>by
  rw [List.dropWhile_cons,if_pos (h x (List.mem_cons_self ..))]
  exact Al p a fun y hy=>h y (List.mem_cons_of_mem _ hy)
theorem An {α : Type} (p : α→Bool) : ∀ {a : List α} {x : α},x∈a→p x = false→x∈a.dropWhile p
 | y :: a,x,h,hp=>by
  rw [List.dropWhile_cons]
  by_cases hy : p y = true
  ·rw [if_pos hy]
   rcases List.mem_cons.1 h with rfl | h
   ·rw [hy] at hp; cases hp
   ·exact An p h hp
  ·rw [if_neg hy]; exact h
theorem Fe {α : Type} (p : α→Bool) (l : List α) : ∃ a,l = a ++ l.dropWhile p∧∀ x∈a,p x = true:=by
 refine ⟨l.takeWhile p,(List.takeWhile_append_dropWhile).symm,fun x hx=>?_⟩
 have:=List.all_takeWhile (l:=l) (p:=p)
 exact List.all_eq_true.1 this x hx
theorem WA (p : UInt8→Bool) (l : List UInt8) : (l.reverse.dropWhile p).reverse.dropWhile p = ((l.dropWhile p).reverse.dropWhile p).reverse:=by
 by_cases h : ∃ x∈l,p x = false
 ·obtain ⟨x,hx,hp⟩:=h
  obtain ⟨a,e1,h1⟩:=Fe p l
  have hm : x∈l.dropWhile p:=An p hx hp
  have e2 : l.reverse.dropWhile p = (l.dropWhile p).reverse.dropWhile p ++ a.reverse:=by
   conv=>lhs; rw [e1,List.reverse_append]
   exact Am p _ _ ⟨x,by simpa using hm,hp⟩
  rw [e2,List.reverse_append,List.reverse_reverse]
  obtain ⟨b,e3,h3⟩:=Fe p (l.dropWhile p).reverse
  generalize hd : (l.dropWhile p).reverse.dropWhile p = d at e3 ⊢
  have Qq : ∃ y∈d,p y = false:=⟨x,by rw [← hd]; exact An p (by simpa using hm) hp,hp⟩
  have e4 : l.dropWhile p = d.reverse ++ b.reverse:=by
   have:=congrArg List.reverse e3
   simpa using this
  have e5 : (a ++ d.reverse).dropWhile p = d.reverse.dropWhile p:=by
   clear e1 e2 e3 hm
   induction a with
   | nil=>rfl
   | cons y a ih =>
    rw [List.cons_append,List.dropWhile_cons,if_pos (h1 y (List.mem_cons_self ..))]
    exact ih fun z hz=>h1 z (List.mem_cons_of_mem _ hz)
  rw [e5]
  have e6 : (l.dropWhile p).dropWhile p = l.dropWhile p:=by
   have : ∀ l : List UInt8,(l.dropWhile p).dropWhile p = l.dropWhile p:=by
    intro l
    induction l with
    | nil=>rfl
    | cons y l ih =>
     rw [List.dropWhile_cons]
     by_cases hy : p y = true
     ·rw [if_pos hy]; exact ih
     ·rw [if_neg hy,List.dropWhile_cons,if_neg hy]
   exact this l
  rw [e4] at e6
  rw [Am p d.reverse b.reverse (by obtain ⟨y,hy,hp⟩:=Qq; exact ⟨y,by simpa using hy,hp⟩)] at e6
  exact List.append_cancel_right e6
 ·have h1 : ∀ x∈l,p x = true:=fun x hx=>by
   cases hp : p x with
   | true=>rfl
   | false=>exact absurd ⟨x,hx,hp⟩ h
  rw [Al p l h1,Al p l.reverse (fun x hx=>h1 x (by simpa using hx))]
  rfl
theorem Wz (s : ah) : dx s = Lib.trimRightB (Lib.trimLeftB s 32) 32:=WA _ s
theorem Ip (s : ah) : (dx s).length≤s.length:=by
 unfold dx Lib.trimB Lib.trimLeftB Lib.trimRightB
 have h1:=(List.dropWhile_sublist (l:=(List.dropWhile (fun x=>x == 32) s.reverse).reverse) (fun x=>x == (32 : UInt8))).length_le
 have h2:=(List.dropWhile_sublist (l:=s.reverse) (fun x=>x == (32 : UInt8))).length_le
 simp only [List.length_reverse] at h1 h2
 omega
theorem kq (n : Nat) (h : n≤1000000) : (bn n).length≤7:=ko 6 n (by omega)
theorem Hh (n : Nat) (h : n≤1000000) : e9 (n : Int) = bn n:=by
 unfold e9
 rw [if_pos (by omega)]
 rfl
def cl (c : UInt8) : ah→List ah
 | []=>[[]]
 | b :: s=>if b = c then [] :: cl c s else match cl c s with
  | w :: ws=>(b :: w) :: ws
  | []=>[[b]]
theorem H8 (c : UInt8) (s : ah) : cl c s≠[]:=by
 cases s with
 | nil=>simp [cl]
 | cons b s =>
  unfold cl
  split
  ·simp
  ·split <;> simp
def gM (s : ah) : List ah:=((cl 44 s).map dx).filter fun w=>decide (w≠[])
end M
namespace M
open Go Go.RowKit
def qB (w w' : World) (c : C) : Prop:=(∀ Z,c.ok w' Z)∧c.bare∧∀ b k,c.fp b k→w.heap.size≤b
theorem J9 [Bs] {P : Program} {f : FuncId} {xs : List X} {r : X}
  (h : ∀ w zl zb cs,cs.map C.er = xs→lA w zl zb cs→mQ w→Calls P f (cs.map C.val).toArray w fun e w'=>∃ c : C,e = .returned c.val∧c.er = r∧Below w.heap.size w w'∧qB w w' c) :
  AC P f xs fun r' ps=>r' = r∧ps = xs.map fun _=>.dead:=by
 intro w zl zb cs e hA jE
 refine (h w zl zb cs e hA fun b hb=>(jE b hb).1).mono fun e' w' ⟨c,he,hc,hb,c1,c2,c3⟩=>?_
 have AU : Ext (fun b k=>∃ x∈cs,x.fp b k) w w':=⟨hb.os,hb.tape,hb.output,hb.size,fun b hl=>.inl (hb.block b hl)⟩
 refine ⟨c,cs.map fun x=>.dead x.val,zl,⟨he,by rw [List.map_map]; rfl,AU,⟨fun x hx'=>?_,fun x hx'=>?_,fun x hx' b k hf=>?_,fun b k hz=>Nat.lt_of_lt_of_le (hA.bK b k (hz.imp id fun h=>h.elim)) hb.size,?_⟩,fun x hx' b k hf=>?_,fun _ _ h=>h,fun _ _ h=>.inl h⟩,hc,?_⟩
 ·rcases List.mem_cons.1 hx' with rfl | hx'
  ·exact c1 _
  ·obtain ⟨y,_,rfl⟩:=List.mem_map.1 hx'; trivial
 ·rcases List.mem_cons.1 hx' with rfl | hx'
  ·exact c2
  ·obtain ⟨y,_,rfl⟩:=List.mem_map.1 hx'; trivial
 ·rcases List.mem_cons.1 hx' with rfl | hx'
  ·have h1:=c3 b k hf
   exact ⟨fun hz=>by have:=hA.bK b k (.inl hz); omega,fun hz=>hz⟩
  ·obtain ⟨y,_,rfl⟩:=List.mem_map.1 hx'; exact hf.elim
 ·refine List.pairwise_cons.2 ⟨fun x hx b k hf hf'=>?_,?_⟩
  ·obtain ⟨y,_,rfl⟩:=List.mem_map.1 hx; exact hf'
  ·refine List.pairwise_iff_getElem.2 fun i j hi hj _ b k hf=>?_
   obtain ⟨y,_,hy⟩:=List.mem_map.1 (List.getElem_mem hi)
   rw [← hy] at hf
   exact hf.elim
 ·rcases List.mem_cons.1 hx' with rfl | hx'
  ·exact .inr (c3 b k hf)
  ·obtain ⟨y,_,rfl⟩:=List.mem_map.1 hx'; exact hf.elim
 ·rw [← e]
  simp [List.map_map,Function.comp_def,C.er]
def eg (f0 : FuncId) (g : List X→Option X) : bE:=fun f xs=>if f = f0 then (match g xs with
 | some r=>some (r,xs.map fun _=>.dead)
 | none=>none) else none
theorem yd [Bs] {P : Program} {f0 : FuncId} {g : List X→Option X}
  (h : ∀ xs r,g xs = some r→∀ w zl zb cs,cs.map C.er = xs→lA w zl zb cs→mQ w→Calls P f0 (cs.map C.val).toArray w fun e w'=>∃ c : C,e = .returned c.val∧c.er = r∧Below w.heap.size w w'∧qB w w' c) : (eg f0 g).Sound P:=fun f xs o e=>by
 unfold eg at e
 split at e
 ·rename_i hf
  subst hf
  split at e
  ·rename_i r hr
   cases e
   exact J9 (h xs r hr)
  ·cases e
 ·cases e
theorem vH {c : C} {s : ByteArray} (h : c.er = .str s) : c = .str s:=by cases c <;> simp [C.er] at h; rw [h]
theorem map_nil {l : List C} (h : l.map C.er = []) : l = []:=by simpa using h
theorem map_cons {l : List C} {x : X} {xs : List X} (h : l.map C.er = x :: xs) : ∃ c cs,l = c :: cs∧c.er = x∧cs.map C.er = xs:=by
 cases l with
 | nil=>simp at h
 | cons c cs=>simp at h; exact ⟨c,cs,rfl,h.1,h.2⟩
theorem FO {w w' : World} {s : ByteArray} (h : s.size≤9223372036854775807) : qB w w' (.str s):=⟨fun _=>h,trivial,fun _ _ h=>h.elim⟩
theorem PT {w w' : World} {b : Bool} : qB w w' (.bool b):=⟨fun _=>trivial,trivial,fun _ _ h=>h.elim⟩
theorem Tc {α β : Type} (l : List α) (d : α) (g : α→β) : ((List.range l.length).map fun j=>g (l.getD j d)) = l.map g:=by
 apply List.ext_getElem
 ·simp
 ·intro i h1 h2
  simp at h1
  simp [h1]
theorem PU {w w' : World} {g : Nat} {t : TypeId} {l : List ByteArray} (hg : w.heap.size≤g) (hb : w'.heap[g]? = some (.cells (l.map Value.string).toArray t (0,0))) (hs : ∀ s∈l,s.size≤9223372036854775807) :
  qB w w' (.row .own 1 (some (g,0,none)) l.length l.length fun i _=>.str (l.getD i ByteArray.empty)):=by
 have hm : ∀ j,j < l.length→l.getD j ByteArray.empty∈l:=fun j hj=>by simp [List.getD,hj]
 refine ⟨fun Z=>⟨Nat.le_refl _,fun i j hi hj=>⟨g,0,rfl,?_,fun h=>absurd rfl h⟩,fun i j hi hj=>⟨trivial,trivial,trivial,hs _ (hm i hi)⟩,fun _=>.inr ⟨g,0,_,t,(0,0),rfl,hb,?_,fun k _ _=>?_⟩,fun i j hi hj b k hf=>hf.elim⟩,trivial,fun b k hf=>?_⟩
 ·obtain rfl : j = 0:=by omega
  simp only [World.cell?,hb]
  simp [C.val,hi,Go.Value.oneCell']
 ·simp
 ·simp [World.frozen?,hb]
 ·obtain ⟨_,h | ⟨i,j,_,_,h⟩⟩:=hf
  ·obtain ⟨o,h⟩:=h
   have hgb:=congrArg Prod.fst (Option.some.inj h)
   have hgb : g = b:=hgb; exact hgb ▸ hg
  ·exact h.elim
theorem Ts (l : List ByteArray) (g cap : Nat) : (C.row .own 1 (some (g,0,none)) l.length cap fun i _=>.str (l.getD i ByteArray.empty)).er = .row .own 1 (l.map fun s=>[.str s]):=by
 show X.row _ _ _ = _
 congr 1
 have:=Tc l ByteArray.empty fun s=>[X.str s]
 rw [← this]
 rfl
theorem MY {c : C} {m : Md} {z : Nat} {xs : List (List X)} (h : c.er = .row m z xs) : ∃ A len cap e,c = .row m z A len cap e∧len = xs.length∧∀ i,i < len→xs[i]? = some ((List.range z).map fun j=>(e i j).er):=by
 cases c with
 | row m' z' A len cap e =>
  simp only [C.er,X.row.injEq] at h
  obtain ⟨rfl,rfl,h⟩:=h
  refine ⟨A,len,cap,e,rfl,by rw [← h]; simp,fun i hi=>?_⟩
  rw [← h]
  simp [hi]
 | _=>simp [C.er] at h
end M
namespace M
open Go
def zi (s : ah) : X:=.str ⟨s.toArray⟩
def CV (l : List ah) : X:=.row .own 1 (l.map eS)
def zu : List X→Option X
 | [.str s,.str c]=>if c.data.toList = [32]∧s.size≤9223372036854775807 then some (zi (dx s.data.toList)) else none
 | _=>none
def zg : List X→Option X
 | [.str s,.str c]=>if s.size < 4294967281∧1≤c.size then some (CV (Lib.split s.data.toList c.data.toList)) else none
 | _=>none
def wj : List X→Option X
 | [.str s,.str c]=>some (.bool (Lib.hasPrefix s.data.toList c.data.toList))
 | _=>none
def lS (f : aL) : ah:=f.name ++ [58,32] ++ f.value ++ [13,10]
def eR (l : List aL) : ah:=l.flatMap lS
def lW : List (List X)→Option (List aL)
 | []=>some []
 | [.str a,.str b] :: r=>(lW r).map fun l=>⟨a.data.toList,b.data.toList⟩ :: l
 | _=>none
def vM : List X→Option X
 | [.row .af 2 rows]=>(match lW rows with
  | some l=>if (eR l).length≤140737488355328∧l.length≤140737488355328 then some (zi (eR l)) else none
  | none=>none)
 | _=>none
theorem FI : ∀ l : List aL,lW (l.map aI) = some l
 | []=>rfl
 | f :: l=>by simp [lW,FI l]
theorem count_nil (c : UInt8) : Lib.count [] [c] = 0:=by rw [Lib.count_one]; rfl
theorem TL (c : UInt8) : ∀ s : ah,Lib.split s [c] = cl c s:=by
 have key : ∀ (n : Nat) (s : ah),s.length≤n→Lib.splitK [c] 0 (Lib.count s [c]) s = cl c s:=by
  intro n
  induction n with
  | zero =>
   intro s hs
   obtain rfl : s = []:=List.length_eq_zero_iff.1 (by omega)
   rw [count_nil]
   rfl
  | succ n ih =>
   intro s hs
   cases s with
   | nil=>rw [count_nil]; rfl
   | cons b s =>
    simp at hs
    have xe:=ih s (by omega)
    by_cases hb : b = c
    ·subst hb
     rw [Lib.count_cons_eq,Nat.add_comm]
     have hi : Lib.index (b :: s) [b] = 0:=Lib.index_first (i:=0) (Nat.zero_le _) (by simp [Lib.occAt]) (fun _ h=>absurd h (Nat.not_lt_zero _))
     simp only [Lib.splitK,hi,cl]
     simp [xe]
    ·rw [Lib.count_cons_ne _ _ _ hb]
     have hnext : Lib.index (b :: s) [c] = if Lib.index s [c] = -1 then -1 else Lib.index s [c] + 1:=by
      have h:=Lib.index_drop (s:=b :: s) (sub:=[c]) (i:=1) (fun j hj=>by
       obtain rfl : j = 0:=by omega
       simp [Lib.occAt,List.isPrefixOf,Ne.symm hb]) (by simp)
      simp at h
      exact h
     rw [cl,if_neg hb,← xe]
     cases hk : Lib.count s [c] with
     | zero=>simp [Lib.splitK]
     | succ k =>
      simp only [Lib.splitK,hnext]
      by_cases h1 : Lib.index s [c] = -1
      ·simp [h1]
      ·have h0 : 0≤Lib.index s [c]:=by
        have : -1≤Lib.index s [c]:=Lib.index_ge _ _
        omega
       have h2 : ¬ Lib.index s [c] + 1 = -1:=by omega
       have h3 : (Lib.index s [c] + 1).toNat = (Lib.index s [c]).toNat + 1:=by omega
       simp [h1,h2,h3]
 intro s
 exact key s.length s (Nat.le_refl _)
end M
namespace M
open Go
def cG {β : Type} (p : β→Bool) (l : List β) : Nat:=(l.takeWhile fun b=>!p b).length
theorem GZ {β : Type} {f : ag→bM} (l : List β) (st : Nat→ag) (p : β→Bool) (E : Nat→ag) {x : Nat}
  (h : ∀ i b,l[i]? = some b→i < l.length→f (st i) = if p b = true then some (.exit x,E i) else some (.normal,st (i + 1)))
  (hend : f (st l.length) = some (.exit x,E l.length)) : aK f (st 0) = some (.exit x,E (cG p l)):=by
 suffices H : ∀ (r : List β) (i : Nat),l.drop i = r→i≤l.length→aK f (st i) = some (.exit x,E (i + cG p r)) by
  have:=H l 0 rfl (Nat.zero_le _)
  rwa [Nat.zero_add] at this
 intro r
 induction r with
 | nil =>
  intro i hr hi
  have : i = l.length:=by
   have:=congrArg List.length hr
   simp at this
   omega
  subst this
  rw [gZ,hend]
  rfl
 | cons b r ih =>
  intro i hr hi
  have hb : l[i]? = some b:=by
   have:=congrArg (fun t : List β=>t[0]?) hr
   simpa using this
  have hlt : i < l.length:=(List.getElem?_eq_some_iff.1 hb).1
  have hd : l.drop (i + 1) = r:=by
   have:=congrArg List.tail hr
   simpa using this
  rw [gZ,h i b hb hlt]
  unfold cG
  by_cases hp : p b = true
  ·simp [hp,cV]
  ·have:=ih (i + 1) hd hlt
   simp only [hp]
   have e : i + 1 + cG p r = i + (cG p r + 1):=by omega
   rw [e] at this
   simp [hp,cV,this,cG]
theorem zx {β : Type} (p : β→Bool) (l : List β) : cG p l≤l.length:=by
 unfold cG
 exact (List.takeWhile_sublist _).length_le
theorem Iv {β : Type} (p : β→Bool) : ∀ (l : List β) (j : Nat) (b : β),j < cG p l→l[j]? = some b→p b = false
 | [],j,b,h,_=>by simp [cG] at h
 | a :: l,j,b,h,hb=>by
  unfold cG at h
  rw [List.takeWhile_cons] at h
  by_cases hp : p a = true
  ·simp [hp] at h
  ·simp only [hp,Bool.not_false,if_true,List.length_cons] at h
   cases j with
   | zero=>simp at hb; subst hb; simpa using hp
   | succ j=>exact Iv p l j b (by unfold cG; omega) (by simpa using hb)
theorem Iu {β : Type} (p : β→Bool) : ∀ (l : List β) (b : β),l[cG p l]? = some b→p b = true
 | [],b,h=>by simp at h
 | a :: l,b,h=>by
  unfold cG at h
  rw [List.takeWhile_cons] at h
  by_cases hp : p a = true
  ·simp [hp] at h; subst h; exact hp
  ·simp only [hp,Bool.not_false,if_true,List.length_cons,List.getElem?_cons_succ] at h
   exact Iu p l b h
def fE (c : UInt8) (f : ah→List ah) (s : ah) (i : Nat) (g : List ah×Nat) (b : Option UInt8) : List ah×Nat:=match b with
 | some b=>if b = c then (g.1 ++ f ((s.take i).drop g.2),i + 1) else g
 | none=>(g.1 ++ f ((s.take i).drop g.2),i + 1)
theorem DH (c : UInt8) : ∀ (cur rest : ah),(∀ b∈cur,b≠c)→cl c (cur ++ rest) = match cl c rest with
  | w :: ws=>(cur ++ w) :: ws
  | []=>[cur]
 | [],rest,_=>by
  cases h : cl c rest with
  | nil=>exact absurd h (H8 c rest)
  | cons w ws=>simpa using h
 | a :: cur,rest,h=>by
  rw [List.cons_append,cl,if_neg (h a (List.mem_cons_self ..)),DH c cur rest fun b hb=>h b (List.mem_cons_of_mem _ hb)]
  cases cl c rest <;> simp
theorem TJ (c : UInt8) (cur : ah) (h : ∀ b∈cur,b≠c) : cl c cur = [cur]:=by
 have:=DH c cur [] h
 simpa [cl] using this
theorem DL : ∀ (p cur rest : ah),((p ++ (cur ++ rest)).take (p.length + cur.length)).drop p.length = cur
 | [],cur,rest=>by simp
 | a :: p,cur,rest=>by
  have:=DL p cur rest
  simp only [List.length_cons,List.cons_append,show p.length + 1 + cur.length = p.length + cur.length + 1 by omega,List.take_succ_cons,List.drop_succ_cons]
  exact this
theorem PS (c : UInt8) (f : ah→List ah) (s : ah) : foldI (fE c f s) 0 (s.map some ++ [none]) ([],0) = ((cl c s).flatMap f,s.length + 1):=by
 suffices H : ∀ (rest p cur : ah) (out : List ah),s = p ++ cur ++ rest→(∀ b∈cur,b≠c)→foldI (fE c f s) (p.length + cur.length) (rest.map some ++ [none]) (out,p.length) = (out ++ (cl c (cur ++ rest)).flatMap f,s.length + 1) by
  have:=H s [] [] [] rfl (by simp)
  simpa using this
 intro rest
 induction rest with
 | nil =>
  intro p cur out hs hc
  simp only [List.append_nil] at hs ⊢
  rw [TJ c cur hc]
  subst hs
  have e1:=DL p cur []
  rw [List.append_nil] at e1
  simp [foldI,fE,e1]
 | cons b rest ih =>
  intro p cur out hs hc
  simp only [List.map_cons,List.cons_append,foldI]
  by_cases hb : b = c
  ·subst hb
   have e1 : (s.take (p.length + cur.length)).drop p.length = cur:=by subst hs; have:=DL p cur (b :: rest); rwa [← List.append_assoc] at this
   have:=ih (p ++ cur ++ [b]) [] (out ++ f cur) (by simp [hs]) (by simp)
   simp only [List.length_append,List.length_cons,List.length_nil,List.nil_append] at this
   simp only [fE,if_true,e1]
   rw [show p.length + cur.length + 1 = p.length + cur.length + (0 + 1) + 0 by omega,this,DH b cur (b :: rest) hc]
   simp [cl]
  ·have:=ih p (cur ++ [b]) out (by simp [hs]) (by
    intro x hx
    rcases List.mem_append.1 hx with hx | hx
    ·exact hc x hx
    ·rw [List.mem_singleton.1 hx]; exact hb)
   simp only [List.length_append,List.length_cons,List.length_nil] at this
   simp only [fE,hb,if_false]
   rw [show p.length + cur.length + 1 = p.length + (cur.length + (0 + 1)) by omega,this]
   simp
theorem Iz (s : ah) : gM s = (cl 44 s).flatMap fun w=>if dx w≠[] then [dx w] else []:=by
 unfold gM
 induction cl 44 s with
 | nil=>rfl
 | cons w l ih =>
  simp only [List.map_cons,List.filter_cons,List.flatMap_cons,← ih]
  by_cases h : dx w = [] <;> simp [h]
@[simp] theorem Yq (l : List UInt8) : l.map (fun b : UInt8=>[X.int IntKind.u8 (b.toNat : Int)]) = l.map eU:=rfl
@[simp] theorem aam (l : List UInt8) : mK (l.map eU) = some l:=Is l
theorem DK (c : UInt8) : ∀ s : ah,((cl c s).map List.length).sum + (cl c s).length = s.length + 1
 | []=>rfl
 | b :: s=>by
  have:=DK c s
  unfold cl
  split
  ·simp; omega
  ·cases h : cl c s with
   | nil=>exact absurd h (H8 c s)
   | cons w ws=>rw [h] at this; simp at this ⊢; omega
theorem H6 (c : UInt8) (s : ah) : (cl c s).length≤s.length + 1:=by have:=DK c s; omega
theorem H7 (c : UInt8) (s : ah) : ∀ w∈cl c s,w.length≤s.length:=by
 intro w hw
 have h:=DK c s
 have h1 : w.length + 1≤((cl c s).map List.length).sum + (cl c s).length:=by
  clear h
  revert hw
  generalize cl c s = l
  intro hw
  induction l with
  | nil=>cases hw
  | cons x l ih =>
   rcases List.mem_cons.1 hw with rfl | hw
   ·simp; omega
   ·have:=ih hw; simp; omega
 omega
theorem G0 (b : UInt8) (h : 65≤b.toNat∧b.toNat≤90) : (b + 32).toNat = b.toNat + 32:=by
 rw [UInt8.toNat_add]
 have : (32 : UInt8).toNat = 32:=rfl
 omega
theorem IC {n : Int} (h1 : 0≤n) (h2 : n < 256) : IntKind.u8.wrap n = n:=zA h1 h2
end M
namespace M
theorem FH {β γ : Type} (φ : β→List γ) (hφ : ∀ b,(φ b).length≤1) (l : List β) (i : Nat) : ((l.take i).flatMap φ).length≤i:=by
 induction l generalizing i with
 | nil=>simp
 | cons b l ih =>
  cases i with
  | zero=>simp
  | succ i =>
   have:=ih i
   have:=hφ b
   simp only [List.take_succ_cons,List.flatMap_cons,List.length_append]
   omega
end M
namespace M
@[simp] theorem Xp (i : Nat) : ((i : Int) < 0) = False:=by simp
end M
namespace M
def fL {α : Type} (f : α→α) (l : List α) (i : Nat) : List α:=(l.take i).map f ++ l.drop i
@[simp] theorem Zb {α : Type} (f : α→α) (l : List α) (i : Nat) : (fL f l i).length = l.length:=by simp [fL]; omega
theorem RN {α : Type} (f : α→α) (l : List α) : fL f l 0 = l:=by simp [fL]
theorem RI {α : Type} (f : α→α) (l : List α) : fL f l l.length = l.map f:=by simp [fL]
theorem RJ {α : Type} (f : α→α) (l : List α) (i : Nat) (h : i < l.length) : (fL f l i)[i]? = some l[i]:=by
 unfold fL
 rw [List.getElem?_append_right (by simp; omega)]
 have : i - ((l.take i).map f).length = 0:=by simp; omega
 rw [this]
 simp [h]
theorem RL {α : Type} (f : α→α) (l : List α) (i : Nat) (h : i < l.length) (h' : i < (fL f l i).length) : (fL f l i)[i] = l[i]:=by
 have:=RJ f l i h
 rw [List.getElem?_eq_getElem h'] at this
 exact Option.some.inj this
theorem RM {α : Type} (f : α→α) (l : List α) (i : Nat) (h : i < l.length) : (fL f l i).set i (f l[i]) = fL f l (i + 1):=by
 unfold fL
 rw [List.set_append_right _ _ (by simp; omega),List.drop_eq_getElem_cons h]
 have : i - ((l.take i).map f).length = 0:=by simp; omega
 rw [this,List.take_succ_eq_append_getElem h]
 simp only [List.set_cons_zero,List.map_append,List.map_cons,List.map_nil,List.append_assoc,List.cons_append,List.nil_append]
end M
namespace M
@[simp] theorem RQ (m : Md) : ∀ (i : Nat) (l : List (List X)),X.bz m (l.take i) = (X.bz m l).take i
 | 0,l=>by simp [X.bz]
 | i + 1,[]=>by simp [X.bz]
 | i + 1,a :: l=>by simp [X.bz,RQ m i l]
@[simp] theorem RP (m : Md) : ∀ (i : Nat) (l : List (List X)),X.bz m (l.drop i) = (X.bz m l).drop i
 | 0,l=>by simp
 | i + 1,[]=>by simp [X.bz]
 | i + 1,a :: l=>by simp [X.bz,RP m i l]
end M
namespace M
open Go
abbrev kS : ah:=[99,111,110,116,101,110,116,45,108,101,110,103,116,104]
abbrev gd : ah:=[118,97,114,121]
theorem qw {l : List ah} {a : ah} (h : a∈l) : a.length≤wL wS l:=gL (w:=wS) h
theorem zz {l : List aL} {a : aL} (h : a∈l) : a.name.length + a.value.length≤wL aM l:=gL (w:=aM) h
def fP (fs : List aL) (n : ah) : Option (Nat×aL):=cB (fun f=>decide (f.name = n)) 0 fs
def gm (o : Option (Nat×aL)) : Int:=o.elim (-1) fun x=>(x.1 : Int)
def cQ (fs : List aL) (n : ah) : Option ah:=(fP fs n).map fun x=>x.2.value
theorem Kl {fs : List aL} {n : ah} {i : Nat} {f : aL} (h : fP fs n = some (i,f)) : ∃ hi : i < fs.length,fs[i] = f∧f.name = n:=by
 obtain ⟨_,h2,h3⟩:=nw h
 simp at h2 h3
 obtain ⟨hi,e⟩:=List.getElem?_eq_some_iff.1 h2
 exact ⟨hi,e,h3⟩
theorem AH (fs : List aL) (n : ah) : ((cQ fs n).getD []).length≤wL aM fs:=by
 unfold cQ
 cases h : fP fs n with
 | none=>simp
 | some x =>
  obtain ⟨i,f⟩:=x
  obtain ⟨hi,rfl,_⟩:=Kl h
  have:=zz (List.getElem_mem hi)
  simp
  omega
def fU (fs : List aL) (x : aL×Nat) : Bool:=ep x.1.name && gi x.1.value && decide (gm (fP fs x.1.name) = x.2) && !decide (x.1.name = kS)
def lT (fs : List aL) : Bool:=aZ (fU fs) fs.zipIdx && decide ((fs.length : Int)≤8)
def eH (r : bY) : Bool:=decide (100≤r.status∧r.status≤599) && lT r.fields && decide ((r.body.length : Int)≤120)
def jw (fs : List aL) : List ah:=(gM ((cQ fs gd).getD [])).map b8
def tI (l : List ah) : Bool:=aZ ep l && decide ((l.length : Int)≤4)
def dh (o : Ob) : Bool:=eH o.resp && ia o.path && decide (0≤o.t∧o.t≤1000000) && tI o.names && decide (o.names = jw o.resp.fields) && decide (o.values.length = o.names.length) && aZ gi o.values
def gq (b : Bn) : Bool:=decide (0≤b.t∧b.t≤1000000) && (if b.kind = 1∨b.kind = 2 then ia b.a && decide (b.b = []) else if b.kind = 3 then ep b.a && gi b.b else false)
def iH (b : Bn) (o : Ob) : Bool:=decide (o.t≤b.t) && gq b && dh o && (if b.kind = 1 then decide (o.path = b.a) else if b.kind = 2 then b.a.isPrefixOf o.path else decide (cQ o.resp.fields b.a = some b.b))
def kF (l : List Bn) (o : Ob) : Bool:=l.any fun b=>iH b o
def mF (w : Wr) : Bool:=decide (0≤w.at_∧w.at_≤19)
def ei (d : cg) : Bool:=aZ mF d.pending && decide ((d.cells.length : Int) = 20) && decide ((d.pending.length : Int)≤16)
def js (l : List Kp) (i : Nat) : Int:=if i = 0 then 0 else (l[i - 1]?.map fun k=>k.seq).getD 0
def nQ (S : Int) (l : List Kp) (x : Kp×Nat) : Bool:=dh x.1.obj && decide (5≤x.1.at_∧x.1.at_≤19) && aZ (fun y=>decide ¬ y.at_ = x.1.at_) (l.take x.2) && decide (js l x.2 < x.1.seq) && decide (x.1.seq < S)
def gY (S : Int) (l : List Kp) (x : Kp×Nat) : Bool:=dh x.1.obj && decide (5≤x.1.at_∧x.1.at_≤19) && decide (1≤x.1.seq∧x.1.seq≤S - 1) && decide (x.2 = 0∨js l x.2 < x.1.seq) && aZ (fun y=>decide ¬ y.at_ = x.1.at_) (l.take x.2)
def pX (S : Int) (l : List Kp) : Bool:=aZ (nQ S l) l.zipIdx
theorem CN (l : List Kp) (i : Nat) (h : i < l.length) : js l (i + 1) = l[i].seq:=by simp [js,h]
theorem Rz (S : Int) (l : List Kp) : aZ (gY S l) l.zipIdx = pX S l:=by
 unfold pX
 rw [Bool.eq_iff_iff,vk,vk]
 have hm : ∀ x∈l.zipIdx,∃ h : x.2 < l.length,x.1 = l[x.2]:=fun x hx=>by
  obtain ⟨i,hi,rfl⟩:=List.getElem_of_mem hx
  simp at hi
  exact ⟨by simpa using hi,by simp⟩
 have hz : ∀ i (h : i < l.length),(l[i],i)∈l.zipIdx:=fun i h=>by
  have : (l.zipIdx)[i]'(by simpa using h) = (l[i],i):=by simp
  rw [← this]; exact List.getElem_mem _
 constructor
 ·intro h x hx
  have h1:=h x hx
  simp only [gY,nQ,Bool.and_eq_true,decide_eq_true_eq] at h1 ⊢
  obtain ⟨⟨⟨⟨a,b⟩,c⟩,d⟩,e⟩:=h1
  refine ⟨⟨⟨⟨a,b⟩,e⟩,?_⟩,by omega⟩
  rcases d with d | d
  ·rw [d]
   have : js l 0 = 0:=rfl
   omega
  ·exact d
 ·intro h
  have pos : ∀ i (hi : i < l.length),1≤l[i].seq:=by
   intro i
   induction i with
   | zero =>
    intro hi
    have h1:=h _ (hz 0 hi)
    simp only [nQ,Bool.and_eq_true,decide_eq_true_eq] at h1
    have : js l 0 = 0:=rfl
    omega
   | succ i ih =>
    intro hi
    have h1:=h _ (hz (i + 1) hi)
    simp only [nQ,Bool.and_eq_true,decide_eq_true_eq] at h1
    have h2:=CN l i (by omega)
    have h3:=ih (by omega)
    omega
  intro x hx
  have h1:=h x hx
  obtain ⟨hl,e⟩:=hm x hx
  have h2:=pos x.2 hl
  rw [← e] at h2
  simp only [gY,nQ,Bool.and_eq_true,decide_eq_true_eq] at h1 ⊢
  obtain ⟨⟨⟨⟨a,b⟩,c⟩,d⟩,f⟩:=h1
  exact ⟨⟨⟨⟨a,b⟩,by omega⟩,.inr d⟩,c⟩
theorem FE {β : Type} (p : β→Bool) : ∀ (l : List β) (k : Nat),(cB p k l).isSome = !aZ (fun b=>!p b) l
 | [],_=>rfl
 | b :: l,k=>by
  unfold cB aZ
  by_cases h : p b = true
  ·simp [h]
  ·have:=FE p l (k + 1)
   unfold aZ at this
   simp [h,this]
theorem qv {l : List Kp} {k : Kp} (h : k∈l) : aU k.obj≤wL aR l:=gL (w:=aR) h
theorem zy {l : List Bn} {b : Bn} (h : b∈l) : aP b≤wL aP l:=gL (w:=aP) h
def dW (s : Sh) : Bool:=ei s.aE && decide ((s.aJ.length : Int)≤5) && decide (5≤s.next∧s.next≤19) && decide (1≤s.seq∧s.seq≤100000) && aZ gq s.aJ && pX s.seq s.ay
end M
namespace M
open Go
def cy (_ : Int) (k : Int) : Int:=k
def bJ (_ : ah) (k : Int) : ah:=nW k
def iL (_ : Bool) (k : Int) : Bool:=decide (k.tmod 3 = 0)
def aC {α : Type} (_ : α) : Nat:=1
def aS {α : Type} (mk : α→Int→α) (n : α→Nat) : List α→Int→List α
 | [],_=>[]
 | a :: l,k=>mk a k :: aS mk n l (k + (n a : Nat))
def nL {α : Type} (n : α→Nat) (l : List α) : Nat:=(l.map n).sum
@[simp] theorem RW {α : Type} (mk : α→Int→α) (n : α→Nat) : ∀ (l : List α) (k : Int),(aS mk n l k).length = l.length
 | [],_=>rfl
 | a :: l,k=>by simp [aS,RW mk n l]
theorem jq {α : Type} (n : α→Nat) (l : List α) (i : Nat) (h : i < l.length) : nL n (l.take (i + 1)) = nL n (l.take i) + n l[i]:=by
 unfold nL
 rw [List.take_succ_eq_append_getElem h,List.map_append,List.sum_append]
 simp
theorem jo {α : Type} (mk : α→Int→α) (n : α→Nat) : ∀ (l : List α) (k : Int) (i : Nat) (h : i < l.length) (h' : i < (aS mk n l k).length),(aS mk n l k)[i] = mk l[i] (k + (nL n (l.take i) : Nat))
 | a :: l,k,0,_,_=>by simp [aS,nL]
 | a :: l,k,i + 1,h,h'=>by
  have h1:=jo mk n l (k + (n a : Nat)) i (by simpa using h) (by simp at h ⊢; omega)
  simp only [aS,List.getElem_cons_succ,List.take_succ_cons,h1]
  congr 1
  simp [nL]; omega
theorem jP {α : Type} (n : α→Nat) (l : List α) (i : Nat) (h : i < l.length) : nL n (l.take i) + n l[i]≤nL n l:=by
 rw [← jq n l i h]
 unfold nL
 conv=>rhs; rw [← List.take_append_drop (i + 1) l]
 rw [List.map_append,List.sum_append]
 omega
theorem R5 {α : Type} (l : List α) : nL (aC : α→Nat) l = l.length:=by
 unfold nL aC
 induction l with
 | nil=>rfl
 | cons a l ih=>simp only [List.map_cons,List.sum_cons,List.length_cons,ih]; omega
theorem jO {α : Type} (n : α→Nat) (h : ∀ a,1≤n a) (l : List α) : l.length≤nL n l:=by
 unfold nL
 induction l with
 | nil=>simp
 | cons a l ih=>have:=h a; simp; omega
theorem tG {α : Type} (n w : α→Nat) (h : ∀ a,n a≤20 + 20 * w a) (l : List α) : nL n l≤20 * wL w l:=by
 unfold nL wL
 induction l with
 | nil=>simp
 | cons a l ih=>have:=h a; simp at ih ⊢; omega
theorem tH {α : Type} (w : α→Nat) (l : List α) : nL (aC : α→Nat) l≤20 * wL w l:=by
 rw [R5]; unfold wL; omega
def dw (a : aL) (k : Int) : aL:=⟨bJ a.name (k),bJ a.value (k + 1)⟩
def aD (a : aL) : Nat:=2
theorem E0 (a : aL) : 1≤aD a:=by unfold aD; omega
theorem E1 (a : aL) : aD a≤20 + 20 * aM a:=by
 unfold aD
 skip
 simp only [aM]
 omega
def hY (a : Wr) (k : Int) : Wr:=⟨cy a.at_ (k),bJ a.text (k + 1)⟩
def bV (a : Wr) : Nat:=2
theorem E4 (a : Wr) : 1≤bV a:=by unfold bV; omega
theorem Mz (a : Wr) : bV a≤20 + 20 * br a:=by
 unfold bV
 skip
 simp only [br]
 omega
def hU (a : Kp) (k : Int) : Kp:=⟨⟨bJ a.obj.path (k),aS bJ aC a.obj.names (k + 1),aS bJ aC a.obj.values (k + 1 + (nL aC a.obj.names : Nat)),⟨cy a.obj.resp.status (k + 1 + (nL aC a.obj.names : Nat) + (nL aC a.obj.values : Nat)),aS dw aD a.obj.resp.fields (k + 1 + (nL aC a.obj.names : Nat) + (nL aC a.obj.values : Nat) + 1),bJ a.obj.resp.body (k + 1 + (nL aC a.obj.names : Nat) + (nL aC a.obj.values : Nat) + 1 + (nL aD a.obj.resp.fields : Nat))⟩,cy a.obj.t (k + 1 + (nL aC a.obj.names : Nat) + (nL aC a.obj.values : Nat) + 1 + (nL aD a.obj.resp.fields : Nat) + 1)⟩,cy a.at_ (k + 1 + (nL aC a.obj.names : Nat) + (nL aC a.obj.values : Nat) + 1 + (nL aD a.obj.resp.fields : Nat) + 1 + 1),cy a.seq (k + 1 + (nL aC a.obj.names : Nat) + (nL aC a.obj.values : Nat) + 1 + (nL aD a.obj.resp.fields : Nat) + 1 + 1 + 1)⟩
def bQ (a : Kp) : Nat:=6 + nL aC a.obj.names + nL aC a.obj.values + nL aD a.obj.resp.fields
theorem E2 (a : Kp) : 1≤bQ a:=by unfold bQ; omega
theorem Mx (a : Kp) : bQ a≤20 + 20 * aR a:=by
 unfold bQ
 have:=tH wS a.obj.names
 have:=tH wS a.obj.values
 have:=tG aD aM E1 a.obj.resp.fields
 simp only [aR,aU,bD]
 omega
def hO (a : Bn) (k : Int) : Bn:=⟨cy a.kind (k),bJ a.a (k + 1),bJ a.b (k + 1 + 1),cy a.t (k + 1 + 1 + 1)⟩
def bU (a : Bn) : Nat:=4
theorem EZ (a : Bn) : 1≤bU a:=by unfold bU; omega
theorem Mw (a : Bn) : bU a≤20 + 20 * aP a:=by
 unfold bU
 skip
 simp only [aP]
 omega
def RX (a : Fl) (k : Int) : Fl:=⟨⟨cy a.q.method (k),bJ a.q.path (k + 1),aS dw aD a.q.fields (k + 1 + 1),bJ a.q.body (k + 1 + 1 + (nL aD a.q.fields : Nat))⟩,aS cy aC a.who (k + 1 + 1 + (nL aD a.q.fields : Nat) + 1),⟨bJ a.old.path (k + 1 + 1 + (nL aD a.q.fields : Nat) + 1 + (nL aC a.who : Nat)),aS bJ aC a.old.names (k + 1 + 1 + (nL aD a.q.fields : Nat) + 1 + (nL aC a.who : Nat) + 1),aS bJ aC a.old.values (k + 1 + 1 + (nL aD a.q.fields : Nat) + 1 + (nL aC a.who : Nat) + 1 + (nL aC a.old.names : Nat)),⟨cy a.old.resp.status (k + 1 + 1 + (nL aD a.q.fields : Nat) + 1 + (nL aC a.who : Nat) + 1 + (nL aC a.old.names : Nat) + (nL aC a.old.values : Nat)),aS dw aD a.old.resp.fields (k + 1 + 1 + (nL aD a.q.fields : Nat) + 1 + (nL aC a.who : Nat) + 1 + (nL aC a.old.names : Nat) + (nL aC a.old.values : Nat) + 1),bJ a.old.resp.body (k + 1 + 1 + (nL aD a.q.fields : Nat) + 1 + (nL aC a.who : Nat) + 1 + (nL aC a.old.names : Nat) + (nL aC a.old.values : Nat) + 1 + (nL aD a.old.resp.fields : Nat))⟩,cy a.old.t (k + 1 + 1 + (nL aD a.q.fields : Nat) + 1 + (nL aC a.who : Nat) + 1 + (nL aC a.old.names : Nat) + (nL aC a.old.values : Nat) + 1 + (nL aD a.old.resp.fields : Nat) + 1)⟩,iL a.AN (k + 1 + 1 + (nL aD a.q.fields : Nat) + 1 + (nL aC a.who : Nat) + 1 + (nL aC a.old.names : Nat) + (nL aC a.old.values : Nat) + 1 + (nL aD a.old.resp.fields : Nat) + 1 + 1)⟩
def Ak (a : Fl) : Nat:=8 + nL aD a.q.fields + nL aC a.who + nL aC a.old.names + nL aC a.old.values + nL aD a.old.resp.fields
def RZ (a : Se) (k : Int) : Se:=⟨⟨cy a.q.method (k),bJ a.q.path (k + 1),aS dw aD a.q.fields (k + 1 + 1),bJ a.q.body (k + 1 + 1 + (nL aD a.q.fields : Nat))⟩,⟨cy a.resp.status (k + 1 + 1 + (nL aD a.q.fields : Nat) + 1),aS dw aD a.resp.fields (k + 1 + 1 + (nL aD a.q.fields : Nat) + 1 + 1),bJ a.resp.body (k + 1 + 1 + (nL aD a.q.fields : Nat) + 1 + 1 + (nL aD a.resp.fields : Nat))⟩,cy a.t (k + 1 + 1 + (nL aD a.q.fields : Nat) + 1 + 1 + (nL aD a.resp.fields : Nat) + 1)⟩
def E3 (a : Se) : Nat:=6 + nL aD a.q.fields + nL aD a.resp.fields
def RY (a : Rp) (k : Int) : Rp:=⟨cy a.client (k),⟨cy a.q.method (k + 1),bJ a.q.path (k + 1 + 1),aS dw aD a.q.fields (k + 1 + 1 + 1),bJ a.q.body (k + 1 + 1 + 1 + (nL aD a.q.fields : Nat))⟩,⟨cy a.resp.status (k + 1 + 1 + 1 + (nL aD a.q.fields : Nat) + 1),aS dw aD a.resp.fields (k + 1 + 1 + 1 + (nL aD a.q.fields : Nat) + 1 + 1),bJ a.resp.body (k + 1 + 1 + 1 + (nL aD a.q.fields : Nat) + 1 + 1 + (nL aD a.resp.fields : Nat))⟩,cy a.kind (k + 1 + 1 + 1 + (nL aD a.q.fields : Nat) + 1 + 1 + (nL aD a.resp.fields : Nat) + 1),cy a.t (k + 1 + 1 + 1 + (nL aD a.q.fields : Nat) + 1 + 1 + (nL aD a.resp.fields : Nat) + 1 + 1),⟨bJ a.obj.path (k + 1 + 1 + 1 + (nL aD a.q.fields : Nat) + 1 + 1 + (nL aD a.resp.fields : Nat) + 1 + 1 + 1),aS bJ aC a.obj.names (k + 1 + 1 + 1 + (nL aD a.q.fields : Nat) + 1 + 1 + (nL aD a.resp.fields : Nat) + 1 + 1 + 1 + 1),aS bJ aC a.obj.values (k + 1 + 1 + 1 + (nL aD a.q.fields : Nat) + 1 + 1 + (nL aD a.resp.fields : Nat) + 1 + 1 + 1 + 1 + (nL aC a.obj.names : Nat)),⟨cy a.obj.resp.status (k + 1 + 1 + 1 + (nL aD a.q.fields : Nat) + 1 + 1 + (nL aD a.resp.fields : Nat) + 1 + 1 + 1 + 1 + (nL aC a.obj.names : Nat) + (nL aC a.obj.values : Nat)),aS dw aD a.obj.resp.fields (k + 1 + 1 + 1 + (nL aD a.q.fields : Nat) + 1 + 1 + (nL aD a.resp.fields : Nat) + 1 + 1 + 1 + 1 + (nL aC a.obj.names : Nat) + (nL aC a.obj.values : Nat) + 1),bJ a.obj.resp.body (k + 1 + 1 + 1 + (nL aD a.q.fields : Nat) + 1 + 1 + (nL aD a.resp.fields : Nat) + 1 + 1 + 1 + 1 + (nL aC a.obj.names : Nat) + (nL aC a.obj.values : Nat) + 1 + (nL aD a.obj.resp.fields : Nat))⟩,cy a.obj.t (k + 1 + 1 + 1 + (nL aD a.q.fields : Nat) + 1 + 1 + (nL aD a.resp.fields : Nat) + 1 + 1 + 1 + 1 + (nL aC a.obj.names : Nat) + (nL aC a.obj.values : Nat) + 1 + (nL aD a.obj.resp.fields : Nat) + 1)⟩,cy a.aJ (k + 1 + 1 + 1 + (nL aD a.q.fields : Nat) + 1 + 1 + (nL aD a.resp.fields : Nat) + 1 + 1 + 1 + 1 + (nL aC a.obj.names : Nat) + (nL aC a.obj.values : Nat) + 1 + (nL aD a.obj.resp.fields : Nat) + 1 + 1)⟩
def My (a : Rp) : Nat:=13 + nL aD a.q.fields + nL aD a.resp.fields + nL aC a.obj.names + nL aC a.obj.values + nL aD a.obj.resp.fields
def uS (a : Rq) (k : Int) : Rq:=⟨a.method,a.path,aS dw aD a.fields (k),a.body⟩
@[simp] theorem aaf (a : Rq) (k : Int) : (uS a k).method = a.method:=rfl
@[simp] theorem aag (a : Rq) (k : Int) : (uS a k).path = a.path:=rfl
@[simp] theorem aae (a : Rq) (k : Int) : (uS a k).body = a.body:=rfl
def DO (a : Rq) : Nat:=nL aD a.fields
def lq (a : bY) (k : Int) : bY:=⟨a.status,aS dw aD a.fields (k),a.body⟩
@[simp] theorem aai (a : bY) (k : Int) : (lq a k).status = a.status:=rfl
@[simp] theorem aah (a : bY) (k : Int) : (lq a k).body = a.body:=rfl
def j0 (a : bY) : Nat:=nL aD a.fields
theorem T4 (a : bY) : j0 a≤20 * bD a:=by
 unfold j0
 have:=tG aD aM E1 a.fields
 unfold bD
 omega
def uR (a : Ob) (k : Int) : Ob:=⟨a.path,aS bJ aC a.names (k),aS bJ aC a.values (k + (nL aC a.names : Nat)),lq a.resp (k + (nL aC a.names : Nat) + (nL aC a.values : Nat)),a.t⟩
@[simp] theorem Z9 (a : Ob) (k : Int) : (uR a k).path = a.path:=rfl
@[simp] theorem aac (a : Ob) (k : Int) : (uR a k).resp = lq a.resp (k + (nL aC a.names : Nat) + (nL aC a.values : Nat)):=rfl
@[simp] theorem aad (a : Ob) (k : Int) : (uR a k).t = a.t:=rfl
def oq (a : Ob) : Nat:=nL aC a.names + nL aC a.values + j0 a.resp
theorem T3 (a : Ob) : oq a≤20 * aU a:=by
 unfold oq
 have:=tH wS a.names
 have:=tH wS a.values
 have:=T4 a.resp
 unfold aU
 omega
def oo (a : cg) (k : Int) : cg:=⟨aS bJ aC a.cells (k),aS hY bV a.pending (k + (nL aC a.cells : Nat))⟩
def fm (a : cg) : Nat:=nL aC a.cells + nL bV a.pending
theorem T0 (a : cg) : fm a≤20 * bN a:=by
 unfold fm
 have:=tH wS a.cells
 have:=tG bV br Mz a.pending
 unfold bN
 omega
def lu (a : Sh) (k : Int) : Sh:=⟨oo a.aE (k),aS hU bQ a.ay (k + (fm a.aE : Nat)),aS hO bU a.aJ (k + (fm a.aE : Nat) + (nL bQ a.ay : Nat)),a.next,a.seq⟩
@[simp] theorem aaj (a : Sh) (k : Int) : (lu a k).aE = oo a.aE (k):=rfl
@[simp] theorem aak (a : Sh) (k : Int) : (lu a k).next = a.next:=rfl
@[simp] theorem aal (a : Sh) (k : Int) : (lu a k).seq = a.seq:=rfl
def gh (a : Sh) : Nat:=fm a.aE + nL bQ a.ay + nL bU a.aJ
theorem Il (a : Sh) : gh a≤20 * bF a:=by
 unfold gh
 have:=T0 a.aE
 have:=tG bQ aR Mx a.ay
 have:=tG bU aP Mw a.aJ
 unfold bF
 omega
def Ik (a : Ca) (k : Int) : Ca:=⟨lu a.iu (k),aS RX Ak a.q6 (k + (gh a.iu : Nat)),a.now,aS RZ E3 a.seen (k + (gh a.iu : Nat) + (nL Ak a.q6 : Nat)),aS RY My a.sent (k + (gh a.iu : Nat) + (nL Ak a.q6 : Nat) + (nL E3 a.seen : Nat))⟩
@[simp] theorem Z2 (a : Ca) (k : Int) : (Ik a k).iu = lu a.iu (k):=rfl
@[simp] theorem Z1 (a : Ca) (k : Int) : (Ik a k).now = a.now:=rfl
def qn (a : De) (k : Int) : De:=⟨a.kind,a.client,uS a.q (k),a.a,lq a.resp (k + (DO a.q : Nat)),a.lG,aS iL aC a.keep (k + (DO a.q : Nat) + (j0 a.resp : Nat))⟩
@[simp] theorem Z6 (a : De) (k : Int) : (qn a k).kind = a.kind:=rfl
@[simp] theorem Z5 (a : De) (k : Int) : (qn a k).client = a.client:=rfl
@[simp] theorem Z7 (a : De) (k : Int) : (qn a k).q = uS a.q (k):=rfl
@[simp] theorem Z3 (a : De) (k : Int) : (qn a k).a = a.a:=rfl
@[simp] theorem Z8 (a : De) (k : Int) : (qn a k).resp = lq a.resp (k + (DO a.q : Nat)):=rfl
@[simp] theorem Z4 (a : De) (k : Int) : (qn a k).lG = a.lG:=rfl
end M
namespace M
open Go Go.RowKit
theorem mQ.cell [B : Bs] {w : World} (h : mQ w) {b k : Nat} {v : Value} (hc : B.W0.cell? ⟨b,k,none⟩ = some v) : w.cell? ⟨b,k,none⟩ = some v:=by
 have hb : b < B.W0.heap.size:=by
  rcases Nat.lt_or_ge b B.W0.heap.size with h | h
  ·exact h
  ·simp [World.cell?,Array.getElem?_eq_none h] at hc
 have e:=h b hb
 simpa [World.cell?,e] using hc
theorem Kq (w : World) : Below w.heap.size w w.drew:=(Below.refl _ _).drew
theorem DR {cs : List C} {s c : ByteArray} (h : cs.map C.er = [.str s,.str c]) : cs = [.str s,.str c]:=by
 obtain ⟨a,r,rfl,h1,h2⟩:=map_cons h
 obtain ⟨b,r',rfl,h3,h4⟩:=map_cons h2
 obtain rfl:=map_nil h4
 rw [vH h1,vH h3]
theorem Ww [Bs] {P : Program} {f0 : FuncId} (hc : ∀ (s : ByteArray) (c : UInt8),c.toNat < 128→∀ w,s.size≤9223372036854775807 →
  Calls P f0 #[.string s,.string ⟨#[c]⟩] w fun e w'=>e = .returned (.string ⟨(Lib.trimB s.data.toList c).toArray⟩)∧(w' = w∨w' = w.drew)) : (eg f0 zu).Sound P :=
 yd fun xs r hg w zl zb cs hx hA hs=>by
  unfold zu at hg
  split at hg
  ·rename_i s c
   split at hg
   ·rename_i hh
    cases hg
    obtain rfl:=DR hx
    have e : c = ⟨#[32]⟩:=by
     have:=congrArg List.toArray hh.1
     simp at this
     cases c; simp at this; rw [this]
    subst e
    refine (hc s 32 (by decide) w hh.2).mono fun e w' ⟨he,hw⟩=>⟨.str ⟨(dx s.data.toList).toArray⟩,he,rfl,?_,FO ?_⟩
    ·rcases hw with rfl | rfl
     ·exact Below.refl _ _
     ·exact Kq _
    ·have:=Ip s.data.toList
     have h2:=hh.2
     simp only [ByteArray.size] at h2 ⊢
     simp at this ⊢
     omega
   ·cases hg
  ·cases hg
theorem TK [B : Bs] {P : Program} {f0 : FuncId} {g1 : Nat} {t9 : TypeId} (hm : ∃ m,B.W0.cell? ⟨g1,0,none⟩ = some (.int .i64 m)) (hc : ∀ (s sep : ByteArray) (m : Int) (w : World),s.size < 4294967281→w.cell? ⟨g1,0,none⟩ = some (.int .i64 m)→1≤sep.size →
  Calls P f0 #[.string s,.string sep] w fun e w'=>e = .returned (.slice (some ⟨w.heap.size,0,none⟩) (Lib.countB s sep + 1) (Lib.countB s sep + 1))∧w' = w.alloc (.cells ((Lib.splitB sep 0 (Lib.countB s sep) s).map Value.string).toArray t9)) : (eg f0 zg).Sound P :=
 yd fun xs r hg w zl zb cs hx hA hs=>by
  unfold zg at hg
  split at hg
  ·rename_i s c
   split at hg
   ·rename_i hh
    cases hg
    obtain rfl:=DR hx
    obtain ⟨m,hm⟩:=hm
    have hlen:=Lib.splitB_all c hh.2 0 _ s rfl
    have Gg:=Lib.splitB_data c 0 (Lib.countB s c) s
    refine (hc s c m w hh.1 (hs.cell hm) hh.2).mono fun e w' ⟨he,hw⟩=>?_
    subst hw
    refine ⟨.row .own 1 (some (w.heap.size,0,none)) (Lib.splitB c 0 (Lib.countB s c) s).length (Lib.splitB c 0 (Lib.countB s c) s).length fun i _=>.str ((Lib.splitB c 0 (Lib.countB s c) s).getD i ByteArray.empty),?_,?_,?_,?_⟩
    ·rw [he,hlen]; rfl
    ·rw [Ts]
     unfold CV
     congr 1
     have : Lib.split s.data.toList c.data.toList = (Lib.splitB c 0 (Lib.countB s c) s).map (·.data.toList):=Gg.symm
     rw [this,List.map_map]
     refine List.map_congr_left fun x _=>?_
     simp
    ·exact (Below.refl _ _).alloc (Nat.le_refl _) _
    ·refine PU (Nat.le_refl _) (t:=t9) ?_ fun x hx=>?_
     ·show (w.heap.push _)[w.heap.size]? = _
      simp
     ·have h1 : x.data.toList∈Lib.splitK c.data.toList 0 (Lib.countB s c) s.data.toList:=by rw [← Gg]; exact List.mem_map_of_mem hx
      have h2 : ∀ (k : Nat) (l : List UInt8),∀ y∈Lib.splitK c.data.toList 0 k l,y.length≤l.length:=by
       intro k
       induction k with
       | zero=>intro l y hy; simp [Lib.splitK] at hy; rw [hy]; exact Nat.le_refl _
       | succ k ih =>
        intro l y hy
        unfold Lib.splitK at hy
        split at hy
        ·rw [List.mem_singleton.1 hy]; exact Nat.le_refl _
        ·rcases List.mem_cons.1 hy with rfl | hy
         ·simp
          omega
         ·have:=ih _ _ hy; simp at this; omega
      have h3:=h2 _ _ _ h1
      have h4:=hh.1
      have e1 : s.size = s.data.toList.length:=Lib.size_eq _
      have e2 : x.size = x.data.toList.length:=Lib.size_eq _
      omega
   ·cases hg
  ·cases hg
theorem Rc [B : Bs] {P : Program} {f0 : FuncId} (htab : Lib.TabIs P B.W0 "internal/strconv.uint64pow10" .u64 Lib.pow10Tab) (hc : ∀ (n : Int),-9223372036854775808≤n→n≤9223372036854775807→∀ w,Lib.TabIs P w "internal/strconv.uint64pow10" .u64 Lib.pow10Tab →
  Calls P f0 #[.int .i64 n] w fun e w'=>e = .returned (.string ⟨(Lib.itoa n).toArray⟩)∧∃ k os,w' = Sort.grow (w.drewN k) os) : (gH f0 sF).Sound P :=
 P3 fun xs r h w hw=>by
  unfold sF at h
  split at h
  ·rename_i n
   split at h
   ·rename_i Ge
    cases h
    exact hc n Ge.1 Ge.2 w (TabIs.same htab hw)
   ·cases h
  ·cases h
end M
namespace Go.Proofs
open Go.RowKit
theorem ZQ {H : Type} {enc : TypeId×Value→H} {a : Assume} {C : Checked} {os : Os} {f : FuncId} {fn : Func} {s : ChangeSpec} {conds : List PathCond} {apart fresh handsOn again : Bool} {X : World→Array Value→Prop}
  (hX : ∀ (w w' : World) (args : Array Value),w.heap = w'.heap→X w args→X w' args)
  (own : ownKnob C.prog.godebug = none) (started : os.Started) (noInit : C.prog.inits.idxOf? f = none) (hfn : C.prog.funcs[f]? = some fn)
  (witness : ∃ (w : World) (tape : Tape) (i : Input),w.os = os∧(w.forCall tape i).Shaped C.prog∧i.vars = []∧Input.okWide C.prog (w.forCall tape i) .any w.heap.size f i ∧
   ((s.pre enc C.prog fn conds apart (w.forCall tape i).memory i.args∧X (w.forCall tape i).memory i.args)∧sizedMet enc C.prog fn (OpenSpec.ofChange s) apart (w.forCall tape i).memory i.args)∧a.holds C.prog (lone (Frame.enter C.prog f i.args .normal) [] (w.forCall tape i)))
  (contract : ∀ (W : World) (base : Nat) (args : Array Value) (ds gs : List (DataW H)) (before : List MemPlace),
   (∀ (j : Nat) t v,fn.params[j]? = some t→args[j]? = some v→Value.okWide C.prog W .any base t v) →
   DataW.Whole enc C.prog fn.params.toList s.vars apart W args.toList ds gs before →
   conds.all (PathCond.test C.prog ⟨fn.params.toList,ds,s.plain.varTypes C.prog,gs⟩) = true →
   (DataW.weightsEach C.prog (fn.params.toList ++ s.plain.varTypes C.prog) (ds ++ gs)).all (·≤reachBytes) = true→X W args →
   W.ShapedOpen C.prog →
   a.holds C.prog (lone (Frame.enter C.prog f args .normal) [] W) →
   Calls C.prog f args W fun e W'=>∃ v,e = .returned v∧s.post enc C.prog fn apart fresh handsOn again W args v W') :
  ReturnsInHanded a C os f .any (fun w args=>(s.pre enc C.prog fn conds apart w args∧X w args)∧sizedMet enc C.prog fn (OpenSpec.ofChange s) apart w args) (s.post enc C.prog fn apart fresh handsOn again):=by
 refine returnsInHanded_of_calls own started noInit witness ?_
 intro w tape i _ hsh _ hok hpre hholds
 obtain ⟨_,_,_,fn',Qy,_,_,_,_,hval⟩:=hok
 have e : fn' = fn:=Option.some.inj (Qy.symm.trans hfn)
 subst e
 obtain ⟨⟨⟨ds,gs,before,hw,hc⟩,hx⟩,hz⟩:=hpre
 have hw':=DataW.Whole.of_heap (w':=w.forCall tape i) (by rfl) hw
 refine (contract (w.forCall tape i) w.heap.size i.args ds gs before hval hw' hc (hz.weights hw) (hX _ _ _ (by rfl) hx) hsh hholds).mono fun e W' ⟨v,he,hp⟩=>?_
 subst he
 exact ChangeSpec.post_blind hp
end Go.Proofs
namespace M
open Go Go.RowKit
end M
namespace M
open Go Go.RowKit
theorem Ql [B : Bs] {P : Program} {f0 : FuncId} (hc : ∀ (s p : ByteArray) (w : World),
  Calls P f0 #[.string s,.string p] w fun e w'=>e = .returned (.bool (Lib.hasPrefix s.data.toList p.data.toList))∧w' = w) : (eg f0 wj).Sound P :=
 yd fun xs r hg w zl zb cs hx hA hs=>by
  unfold wj at hg
  split at hg
  ·rename_i s c
   cases hg
   obtain rfl:=DR hx
   refine (hc s c w).mono fun e w' ⟨he,hw⟩=>?_
   subst hw
   exact ⟨.bool (Lib.hasPrefix s.data.toList c.data.toList),he,rfl,Below.refl _ _,PT⟩
  ·cases hg
end M
namespace M
open Go Go.RowKit
def fD (l : List (ByteArray×ByteArray)) : List UInt8:=l.flatMap fun f=>f.1.data.toList ++ [58,32] ++ f.2.data.toList ++ [13,10]
theorem FR {l : List (ByteArray×ByteArray)} {k : Nat} (h : k < l.length) : fD (l.take (k + 1)) = fD (l.take k) ++ (l[k].1.data.toList ++ [58,32] ++ l[k].2.data.toList ++ [13,10]):=by
 unfold fD
 rw [List.take_succ_eq_append_getElem h,List.flatMap_append]
 simp only [List.flatMap_cons,List.flatMap_nil,List.append_nil]
theorem PX {l : List (ByteArray×ByteArray)} {k : Nat} (h : k < l.length) : (fD (l.take k)).length + l[k].1.size + 2 + l[k].2.size + 2≤(fD l).length:=by
 have e : fD l = fD (l.take (k + 1)) ++ fD (l.drop (k + 1)):=by
  unfold fD
  rw [← List.flatMap_append,List.take_append_drop]
 rw [e,FR h]
 simp only [List.length_append,List.length_cons,List.length_nil]
 have h1 : l[k].1.data.toList.length = l[k].1.size:=by rw [Array.length_toList]; rfl
 have h2 : l[k].2.data.toList.length = l[k].2.size:=by rw [Array.length_toList]; rfl
 omega
def vR (f : aL) : ByteArray×ByteArray:=(⟨f.name.toArray⟩,⟨f.value.toArray⟩)
theorem FQ (l : List aL) : fD (l.map vR) = eR l:=by
 unfold fD eR
 rw [List.flatMap_map]
 rfl
theorem Nc : ∀ {rows : List (List X)} {l : List aL},lW rows = some l→rows = l.map aI:=by
 intro rows
 induction rows with
 | nil=>intro l h; simp [lW] at h; subst h; rfl
 | cons r rows ih =>
  intro l h
  match r,h with
  | [.str a,.str b],h =>
   simp only [lW] at h
   cases hs : lW rows with
   | none=>rw [hs] at h; simp at h
   | some l' =>
    rw [hs] at h
    simp at h
    subst h
    rw [ih hs]
    simp
theorem M4 [B : Bs] {P : Program} {f0 : FuncId}
  (hc : ∀ (A : Option Addr) (cap : Nat) (fs : List (ByteArray×ByteArray)) (w : World),
   (∀ i f,fs[i]? = some f→∃ g o,A = some ⟨g,o,none⟩∧g < w.heap.size∧w.cell? ⟨g,o + i * 2,none⟩ = some (.string f.1)∧w.cell? ⟨g,o + i * 2 + 1,none⟩ = some (.string f.2)) →
   (fD fs).length≤140737488355328→fs.length≤140737488355328 →
   Calls P f0 #[.slice A fs.length cap] w fun e w'=>e = .returned (.string ⟨(fD fs).toArray⟩)∧Below w.heap.size w w') : (eg f0 vM).Sound P :=
 yd fun xs r hg w zl zb cs hx hA hs=>by
  unfold vM at hg
  split at hg
  ·rename_i rows
   split at hg
   ·rename_i l hl
    split at hg
    ·rename_i hh
     cases hg
     obtain ⟨c1,r1,rfl,h1,h2⟩:=map_cons hx
     obtain rfl:=map_nil h2
     obtain ⟨A,len,cap,e,rfl,hlen,hrow⟩:=MY h1
     have hrows:=Nc hl
     have nB : len = l.length:=by rw [hlen,hrows]; simp
     have ok:=hA.ok _ (List.mem_cons_self ..)
     obtain ⟨k1,k2,k3,k4,k5⟩:=ok
     have hcell : ∀ i f,(l.map vR)[i]? = some f→∃ g o,(A.map fun q=>(⟨q.1,q.2.1,q.2.2⟩ : Addr)) = some ⟨g,o,none⟩∧g < w.heap.size∧w.cell? ⟨g,o + i * 2,none⟩ = some (.string f.1)∧w.cell? ⟨g,o + i * 2 + 1,none⟩ = some (.string f.2):=by
      intro i f hi
      have hi2 : i < l.length:=by
       have:=List.getElem?_eq_some_iff.1 hi
       simpa using this.1
      obtain ⟨g,o,gQ,h0,_⟩:=k2 i 0 (by omega) (by omega)
      obtain ⟨g',o',F7,h0',_⟩:=k2 i 1 (by omega) (by omega)
      rw [gQ] at F7
      cases F7
      have hr:=hrow i (by omega)
      rw [hrows,List.getElem?_map,List.getElem?_eq_getElem hi2] at hr
      rw [List.getElem?_map,List.getElem?_eq_getElem hi2] at hi
      simp [List.range_succ,vR] at hr hi
      obtain ⟨r1,r2⟩:=hr
      have q1:=vH r1.symm
      have q2:=vH r2.symm
      rw [q1] at h0
      rw [q2] at h0'
      subst hi
      refine ⟨g,o,by rw [gQ]; rfl,?_,by simpa [C.val] using h0,by simpa [C.val] using h0'⟩
      rcases Nat.lt_or_ge g w.heap.size with h | h
      ·exact h
      ·simp [World.cell?,Array.getElem?_eq_none h] at h0
     have key:=hc (A.map fun q=>(⟨q.1,q.2.1,q.2.2⟩ : Addr)) cap (l.map vR) w hcell (by rw [FQ]; exact hh.1) (by simpa using hh.2)
     rw [FQ,List.length_map,← nB] at key
     refine Calls.mono key fun e w' ⟨he,hb⟩=>?_
     exact ⟨.str ⟨(eR l).toArray⟩,he,rfl,hb,FO (by have:=hh.1; simp only [ByteArray.size,List.size_toArray]; omega)⟩
    ·cases hg
   ·cases hg
  ·cases hg
end M
namespace M
open Go
end M
namespace M
open Go
def crlf : ah:=[13,10]
def cM : ah:=[13,10,13,10]
def lines : List ah→ah
 | []=>[]
 | [l]=>l
 | l :: k :: ls=>l ++ (crlf ++ lines (k :: ls))
def tL : ah:=[72,84,84,80,47,49,46,49]
def oL (f : aL) : ah:=f.name ++ ([58,32] ++ f.value)
def vT (fs : List aL) : ah:=fs.flatMap fun f=>oL f ++ crlf
def Co (b : ah) : ah:=kS ++ ([58,32] ++ bn b.length)
def ym (r : bY) : ah:=tL ++ 32 :: (bn r.status.toNat ++ [32,46])
def HK (r : bY) : List ah:=ym r :: (r.fields.map oL ++ [Co r.body])
def tW (r : bY) : ah:=lines (HK r) ++ (cM ++ r.body)
def fk (r : bY) : ah:=if eH r = true then tW r else []
theorem PV (fs : List aL) : eR fs = vT fs:=by
 unfold eR vT
 congr 1
 funext f
 simp [lS,oL,crlf]
theorem RC (fs : List aL) (l z : ah) : lines (l :: (fs.map oL ++ [z])) = l ++ (crlf ++ (vT fs ++ z)):=by
 induction fs generalizing l with
 | nil=>rfl
 | cons f fs ih =>
  show l ++ (crlf ++ lines (oL f :: (fs.map oL ++ [z]))) = _
  rw [ih]
  simp [vT]
theorem HJ (r : bY) : tW r = ym r ++ (crlf ++ (eR r.fields ++ (Co r.body ++ (cM ++ r.body)))):=by
 unfold tW HK
 rw [RC,PV]
 simp
end M
namespace M
open Go
def colon : ah:=[58,32]
theorem Tn {r : bY} (h : eH r = true) : (100≤r.status∧r.status≤599)∧lT r.fields = true∧r.body.length≤120:=by
 unfold eH at h
 simp only [Bool.and_eq_true,decide_eq_true_eq] at h
 exact ⟨h.1.1,h.1.2,by omega⟩
theorem Tu (r : bY) : tW r≠[]:=by
 rw [HJ]
 simp [ym,tL]
theorem CT (r : bY) : fk r = []↔¬ eH r = true:=by
 unfold fk
 have:=Tu r
 split <;> simp_all
def kT : ah:=[111,98,106]
def tM (o : Ob) : ah:=kT ++ 32 :: (o.path ++ 32 :: (e9 o.t ++ 32 :: bn o.values.length))
def j6 (l : List ah) : ah:=l.flatMap fun v=>v ++ [10]
def pW (o : Ob) : ah:=tM o ++ 10 :: (j6 o.values ++ tW o.resp)
def cR (o : Ob) : ah:=if dh o = true then pW o else []
structure J1 (o : Ob) : Prop where
 resp : eH o.resp = true
 path : ia o.path = true
 t0 : 0≤o.t
 t1 : o.t≤1000000
 names : tI o.names = true
 aan : o.names = jw o.resp.fields
 len : o.values.length = o.names.length
 n4 : o.names.length≤4
 vals : ∀ v∈o.values,gi v = true
theorem CE {o : Ob} (h : dh o = true) : J1 o:=by
 unfold dh at h
 simp only [Bool.and_eq_true,decide_eq_true_eq] at h
 have hn : o.names.length≤4:=by
  have:=h.1.1.1.2
  unfold tI at this
  simp only [Bool.and_eq_true,decide_eq_true_eq] at this
  omega
 obtain ⟨⟨⟨⟨⟨⟨h1,h2⟩,h3,h4⟩,h5⟩,h6⟩,h7⟩,h8⟩:=h
 exact ⟨h1,h2,h3,h4,h5,h6,by omega,hn,fun v hv=>vk.1 h8 v hv⟩
theorem R7 (o : Ob) : pW o≠[]:=by simp [pW,tM,kT]
theorem CF (o : Ob) : cR o = []↔¬ dh o = true:=by
 unfold cR
 have:=R7 o
 split <;> simp_all
end M
namespace M
open Go
end M
namespace M
open Go
theorem DY {α : Type} (w : α→Nat) (l : List α) (n : Nat) : wL w (l.take n)≤wL w l:=by
 have h : l = l.take n ++ l.drop n:=(List.take_append_drop n l).symm
 have h1:=congrArg List.length h
 have h2:=congrArg (fun l=>(l.map w).sum) h
 simp only [List.length_append] at h1
 simp only [List.map_append,List.sum_append] at h2
 unfold wL
 omega
end M
namespace M
open Go
theorem M9 {α : Type} {p : α→Bool} {l : List α} {i : Nat} {b : α} (h : cB p 0 l = some (i,b)) : l = l.take i ++ b :: l.drop (i + 1)∧p b = true∧(l.take i).filter (fun v=>!p v) = l.take i∧l.filter (fun v=>!p v) = l.take i ++ (l.drop (i + 1)).filter (fun v=>!p v):=by
 obtain ⟨_,h1,h2⟩:=nw h
 rw [Nat.sub_zero] at h1
 obtain ⟨hi,rfl⟩:=List.getElem?_eq_some_iff.1 h1
 have e : l = l.take i ++ l[i] :: l.drop (i + 1):=by rw [← List.drop_eq_getElem_cons hi,List.take_append_drop]
 have hb : ∀ x∈l.take i,p x = false:=by
  suffices H : ∀ (l : List α) (k i : Nat) (b : α),cB p k l = some (k + i,b)→∀ x∈l.take i,p x = false from H l 0 i _ (by simpa using h)
  intro l
  induction l with
  | nil=>intro k i b h; simp [cB] at h
  | cons a l ih =>
   intro k i b h x hx
   unfold cB at h
   by_cases hp : p a = true
   ·rw [if_pos hp] at h
    have : i = 0:=by have:=congrArg (fun o=>o.map Prod.fst) h; simp at this; exact this
    subst this
    simp at hx
   ·rw [if_neg hp] at h
    cases i with
    | zero=>simp at hx
    | succ i =>
     rcases List.mem_cons.1 (by simpa using hx) with rfl | hx
     ·simpa using hp
     ·exact ih (k + 1) i b (by rw [h]; congr 2; omega) x hx
 have hf : (l.take i).filter (fun v=>!p v) = l.take i:=List.filter_eq_self.2 fun x hx=>by simp [hb x hx]
 refine ⟨e,h2,hf,?_⟩
 conv=>lhs; rw [e]
 rw [List.filter_append,hf,List.filter_cons]
 simp [h2]
end M
