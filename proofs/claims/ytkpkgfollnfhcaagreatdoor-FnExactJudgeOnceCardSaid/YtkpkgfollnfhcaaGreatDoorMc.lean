/- A machine of values for loaded Go functions, sound for the calculus of calls; part 3; no conditions. -/
import Derived.Test.YtkpkgfollnfhcaaGreatDoorMb
import Derived.Sort.Grow
import Derived.Deep.Draws
import Derived.Lib.LaidTab
import Derived.MakeChecks
import Derived.Laws.BitsLemmas
import Derived.ChangeArms
import Derived.ChangeReads
import Derived.ChangeOld
import Derived.ChangeShapes
import Derived.SizedLaws
import Derived.RowKit
import Derived.Below
import Derived.Lib.ItoaNum
import Derived.Lib.TrimByte
import Derived.Lib.AtoiAllCases
import Derived.Lib.SplitLaws
import Derived.Lib.Join
import Derived.Lib.IndexMore
import Derived.HandedShaped
import Derived.Lib.Strings
import Derived.Lib.Slices
import Derived.Lib.Walk
import Derived.Stop.LaidErr
import Derived.Lib.SlicesCompact
set_option linter.unusedSectionVars false
set_option linter.unusedVariables false
set_option linter.unusedSimpArgs false
namespace M
open Go
section
variable {C C' : bp} {ok : FuncId→Bool}
theorem QZ {C : bp} {d : Option Nat} {s s' : ag} {f : FuncId} {xs : List X} (h : kH d s (C f xs) = some s') : ∃ o,C f xs = some o∧∀ C' : bp,C' f xs = some o→kH d s (C' f xs) = some s':=by
 cases ho : C f xs with
 | none=>rw [ho] at h; cases h
 | some o=>rw [ho] at h; exact ⟨o,rfl,fun C' h'=>by rw [h']; exact h⟩
theorem QY {C : bp} {d : Option Nat} {as : List (AV×PM)} {back : qp} {s' : ag} {f : FuncId} {xs : List X} (h : tv d as back (C f xs) = some s') : ∃ o,C f xs = some o∧∀ C' : bp,C' f xs = some o→tv d as back (C' f xs) = some s':=by
 cases ho : C f xs with
 | none=>rw [ho] at h; cases h
 | some o=>rw [ho] at h; exact ⟨o,rfl,fun C' h'=>by rw [h']; exact h⟩
theorem Db {f : FuncId} {d : Option Nat} {as : List (AV×PM)} {fv : Option AV} {s s' : ag} (h : k7 C f d as fv s = some s') :
  ∃ xs o,C f xs = some o∧∀ C' : bp,C' f xs = some o→k7 C' f d as fv s = some s':=by
 unfold k7 at h ⊢
 by_cases hb : X.bare.fy (aV as s).1 = true
 ·simp only [if_pos hb] at h ⊢
  cases hm : cA as with
  | none =>
   simp only [hm] at h ⊢
   by_cases hc : od (aV as s).2 fv f = true
   ·simp only [if_pos hc] at h ⊢
    obtain ⟨o,h1,h2⟩:=QZ h
    exact ⟨_,o,h1,h2⟩
   ·simp only [if_neg hc] at h; cases h
  | some xn =>
   obtain ⟨x,n⟩:=xn
   simp only [hm] at h ⊢
   unfold uI at h ⊢
   split at h
   ·split at h
    ·rename_i y back h1 h2
     simp only [h1,if_pos h2]
     obtain ⟨o,h1,h2⟩:=QY h
     exact ⟨_,o,h1,h2⟩
    ·cases h
   ·cases h
 ·simp only [if_neg hb] at h; cases h
theorem DF {o : bn} {s s' : ag} (h : bG C ok o s = some s') : (∀ C' : bp,bG C' ok o s = some s')∨∃ f xs r,C f xs = some r∧∀ C' : bp,C' f xs = some r→bG C' ok o s = some s':=by
 cases o with
 | call d f as =>
  obtain ⟨xs,o,h1,h2⟩:=Db (C:=C) h
  exact .inr ⟨f,xs,o,h1,h2⟩
 | jo d x as =>
  simp only [bG] at h ⊢
  split at h
  ·rename_i f caps hf
   split at h
   ·rename_i hok
    obtain ⟨xs,o,h1,h2⟩:=Db (C:=C) h
    refine .inr ⟨f,xs,o,h1,fun C' h'=>?_⟩
    simp only [if_pos hok]
    exact h2 C' h'
   ·cases h
  ·cases h
 | k6 d f x as =>
  simp only [bG] at h ⊢
  split at h
  ·rename_i cs h1
   split at h
   ·rename_i h2
    simp only [if_pos h2]
    refine .inr ?_
    cases ho : C f (.agg (aW cs s).1 :: dH (aW cs s).2 .dead as (as.map fun _=>.dead)) with
    | none=>rw [ho] at h; cases h
    | some r=>rw [ho] at h; exact ⟨f,_,r,ho,fun C' h'=>by rw [h']; exact h⟩
   ·cases h
  ·cases h
 | _=>exact .inl fun _=>h
theorem DA {g : G} {s s' : ag} (h : eG C ok g s = some s') : (∀ C' : bp,eG C' ok g s = some s')∨∃ f xs r,C f xs = some r∧∀ C' : bp,C' f xs = some r→eG C' ok g s = some s':=by
 obtain ⟨gg,o⟩:=g
 cases gg with
 | none=>exact DF h
 | some tb =>
  obtain ⟨t,b⟩:=tb
  simp only [eG] at h ⊢
  split at h
  ·rename_i v hv
   split at h
   ·rename_i h1
    simp only [hv,if_pos h1]
    exact DF h
   ·rename_i h1
    simp only [hv,if_neg h1]
    exact .inl fun _=>h
  ·exact .inl fun _=>h
  ·cases h
def bp.le (C C' : bp) : Prop:=∀ f xs o,C f xs = some o→C' f xs = some o
theorem DC (hl : C.le C') {g : G} {s s' : ag} (h : eG C ok g s = some s') : eG C' ok g s = some s':=by
 rcases DA h with h | ⟨f,xs,r,h1,h2⟩
 ·exact h _
 ·exact h2 _ (hl _ _ _ h1)
theorem zk (hl : C.le C') : ∀ {l : List G} {s s' : ag},fM C ok l s = some s'→fM C' ok l s = some s'
 | [],_,_,h=>h
 | g :: l,s,s',h=>by
  simp only [fM] at h ⊢
  cases h1 : eG C ok g s with
  | none=>rw [h1] at h; cases h
  | some s1=>rw [h1] at h; rw [DC hl h1]; exact zk hl h
theorem ov (hl : C.le C') : ∀ {t : DT} {s s' : ag},eD C ok t s = some s'→eD C' ok t s = some s'
 | .nil _,_,_,h=>h
 | .step _ g l,s,s',h=>by
  simp only [eD] at h ⊢
  cases h1 : eG C ok g s with
  | none=>rw [h1] at h; cases h
  | some s1=>rw [h1] at h; rw [DC hl h1]; exact ov hl h
 | .alt a b,s,s',h=>by
  simp only [eD] at h ⊢
  unfold same at h
  split at h
  ·rename_i x y hx hy
   rw [ov hl hx,ov hl hy]
   exact h
  ·cases h
 | .kp _ t,s,s',h=>ov (t:=t) hl h
theorem xU {k k' : ag→bC} {r r' : bC} {o : Ex×ag} (h : dc k r = some o) (hr : ∀ x,r = some x→r' = some x) (hk : ∀ s,k s = some o→k' s = some o) : dc k' r' = some o:=by
 unfold dc at h
 split at h
 ·rw [hr _ rfl]; exact hk _ h
 ·rw [hr _ rfl]; exact h
 ·rw [hr _ rfl]; exact h
 ·cases h
theorem oM {f f' : ag→bC} (hf : ∀ s o,f s = some o→f' s = some o) : ∀ {n m : Nat} {s : ag} {o : Ex×ag},n≤m→iter f n s = some o→iter f' m s = some o
 | 0,_,_,_,_,h=>by cases h
 | n + 1,0,_,_,hn,_=>by omega
 | n + 1,m + 1,s,o,hn,h=>xU h (hf s) fun s' h'=>oM hf (by omega) h'
end
noncomputable def aE (f : ag→bC) (s : ag) : bC:=by
 classical exact if h : ∃ o : Ex×ag,∃ n,iter f n s = some o then some (Classical.choose h) else none
theorem sP {f : ag→bC} {s : ag} {o : Ex×ag} {n : Nat} (h : iter f n s = some o) : aE f s = some o:=by
 have hh : ∃ o : Ex×ag,∃ n,iter f n s = some o:=⟨o,n,h⟩
 unfold aE
 rw [dif_pos hh]
 obtain ⟨m,hm⟩:=Classical.choose_spec hh
 have h1:=oM (fun _ _ h=>h) (Nat.le_max_left m n) hm
 have h2:=oM (fun _ _ h=>h) (Nat.le_max_right m n) h
 rw [h1] at h2
 exact h2
theorem Bp {f : ag→bC} {s : ag} {o : Ex×ag} (h : aE f s = some o) : ∃ n,iter f n s = some o:=by
 unfold aE at h
 split at h
 ·rename_i hh
  cases h
  exact Classical.choose_spec hh
 ·cases h
theorem BC {α : Type} {a b : Option α} (h1 : ∀ x,a = some x→b = some x) (h2 : ∀ x,b = some x→a = some x) : a = b:=by
 cases a with
 | none=>cases b with
  | none=>rfl
  | some y=>exact h2 y rfl
 | some x=>exact (h1 x rfl).symm
theorem iW (f : ag→bC) (s : ag) : aE f s = dc (aE f) (f s):=by
 refine BC (fun o h=>?_) fun o h=>?_
 ·obtain ⟨n,hn⟩:=Bp h
  cases n with
  | zero=>cases hn
  | succ n=>exact xU hn (fun _ h=>h) fun s' h'=>sP h'
 ·unfold dc at h
  split at h
  ·rename_i s' hs
   obtain ⟨n,hn⟩:=Bp h
   refine sP (n:=n + 1) ?_
   simp only [iter,hs,dc]; exact hn
  ·rename_i hs; refine sP (n:=1) ?_; simp only [iter,hs,dc]; exact h
  ·rename_i hs; refine sP (n:=1) ?_; simp only [iter,hs,dc]; exact h
  ·cases h
noncomputable def ai (C : bp) (ok : FuncId→Bool) : A→ag→bC
 | .skip,s=>some (.normal,s)
 | .ret,s=>some (.ret,s)
 | .exit id,s=>some (.exit id,s)
 | .ops l,s=>eM (fM C ok l s)
 | .draw t,s=>eM (eD C ok t s)
 | .seq a b,s=>dc (ai C ok b) (ai C ok a s)
 | .cond c a b,s=>match aj s c with
  | .bool t=>if t = true then ai C ok a s else ai C ok b s
  | _=>none
 | .block id b,s=>gB id (ai C ok b s)
 | .loop b,s=>aE (ai C ok b) s
 | .pk ks b,s=>gO ks (ai C ok b s)
theorem xe {a b : Option ag} (h : ∀ s,a = some s→b = some s) {o : Ex×ag} (ho : eM a = some o) : eM b = some o:=by
 unfold eM at ho
 split at ho
 ·rw [h _ rfl]; exact ho
 ·cases ho
theorem CP {id : Nat} {a b : bC} (h : ∀ s,a = some s→b = some s) {o : Ex×ag} (ho : gB id a = some o) : gB id b = some o:=by
 cases a with
 | none=>cases ho
 | some x=>rw [h _ rfl]; exact ho
theorem FH {ks : List Nat} {a b : bC} (h : ∀ s,a = some s→b = some s) {o : Ex×ag} (ho : gO ks a = some o) : gO ks b = some o:=by
 cases a with
 | none=>cases ho
 | some x=>rw [h _ rfl]; exact ho
theorem KX {C C' : bp} {ok : FuncId→Bool} (hl : C.le C') {N : Nat} : ∀ {t : A} {s : ag} {o : Ex×ag},eA C ok N t s = some o→ai C' ok t s = some o:=by
 intro t
 induction t with
 | skip=>intro s o h; exact h
 | ret=>intro s o h; exact h
 | exit id=>intro s o h; exact h
 | ops l=>intro s o h; exact xe (fun s' h'=>zk hl h') h
 | draw l=>intro s o h; exact xe (fun s' h'=>ov hl h') h
 | seq a b eL fS=>intro s o h; exact xU h (fun x hx=>eL hx) fun s' h'=>fS h'
 | cond c a b eL fS =>
  intro s o h
  simp only [eA] at h
  simp only [ai]
  split at h
  ·rename_i t ht
   try rw [ht]
   cases t with
   | true=>exact eL h
   | false=>exact fS h
  ·cases h
 | block id b ih=>intro s o h; exact CP (fun x hx=>ih hx) h
 | loop b ih=>intro s o h; exact sP (oM (fun s o h=>ih h) (Nat.le_refl _) h)
 | pk ks b ih=>intro s o h; exact FH (fun x hx=>ih hx) h
theorem KY {C C' : bp} {ok : FuncId→Bool} (hl : C.le C') {N N' : Nat} (hN : N≤N') : ∀ {t : A} {s : ag} {o : Ex×ag},eA C ok N t s = some o→eA C' ok N' t s = some o:=by
 intro t
 induction t with
 | skip=>intro s o h; exact h
 | ret=>intro s o h; exact h
 | exit id=>intro s o h; exact h
 | ops l=>intro s o h; exact xe (fun s' h'=>zk hl h') h
 | draw l=>intro s o h; exact xe (fun s' h'=>ov hl h') h
 | seq a b eL fS=>intro s o h; exact xU h (fun x hx=>eL hx) fun s' h'=>fS h'
 | cond c a b eL fS =>
  intro s o h
  simp only [eA] at h ⊢
  split at h
  ·rename_i t ht
   cases t with
   | true=>exact eL h
   | false=>exact fS h
  ·cases h
 | block id b ih=>intro s o h; exact CP (fun x hx=>ih hx) h
 | loop b ih=>intro s o h; exact oM (fun s o h=>ih h) hN h
 | pk ks b ih=>intro s o h; exact FH (fun x hx=>ih hx) h
theorem uW {L : bp} {T : fq} : ∀ {n m : Nat},n≤m→(exec L T n).le (exec L T m)
 | 0,_,_,_,_,_,h=>by cases h
 | n + 1,0,hn,_,_,_,_=>by omega
 | n + 1,m + 1,hn,f,xs,o,h=>by
  have hnm : n≤m:=by omega
  simp only [exec] at h ⊢
  split at h
  ·rename_i F hF
   unfold eF at h ⊢
   split at h
   ·rename_i hl
    rw [if_pos hl]
    cases hr : eA (exec L T n) (ak T) n F.body (iH xs) with
    | none=>rw [hr] at h; cases h
    | some r=>rw [hr] at h; rw [KY (uW hnm) hnm hr]; exact h
   ·cases h
  ·exact h
noncomputable def ev (L : bp) (T : fq) : bp:=fun f xs=>by
 classical exact if h : ∃ o : Out,∃ n,exec L T n f xs = some o then some (Classical.choose h) else none
theorem zq {L : bp} {T : fq} {f : FuncId} {xs : List X} {o : Out} {n : Nat} (h : exec L T n f xs = some o) : ev L T f xs = some o:=by
 have hh : ∃ o : Out,∃ n,exec L T n f xs = some o:=⟨o,n,h⟩
 unfold ev
 rw [dif_pos hh]
 obtain ⟨m,hm⟩:=Classical.choose_spec hh
 have h1:=uW (Nat.le_max_left m n) f xs _ hm
 have h2:=uW (Nat.le_max_right m n) f xs _ h
 rw [h1] at h2
 exact h2
theorem uU {L : bp} {T : fq} {f : FuncId} {xs : List X} {o : Out} (h : ev L T f xs = some o) : ∃ n,exec L T n f xs = some o:=by
 unfold ev at h
 split at h
 ·rename_i hh
  cases h
  exact Classical.choose_spec hh
 ·cases h
theorem K5 (L : bp) (T : fq) (n : Nat) : (exec L T n).le (ev L T):=fun _ _ _ h=>zq h
theorem V4 [Bs] {P : Program} {L : bp} {T : fq} (hL : L.Sound P) (hT : T.Ok P) : (ev L T).Sound P:=fun f xs o h=>by
 obtain ⟨n,hn⟩:=uU h
 exact DP hL hT n f xs o hn
section
variable {L : bp} {T : fq}
theorem DB {g : G} {s s' : ag} (h : eG (ev L T) (ak T) g s = some s') : ∃ n,∀ m,n≤m→eG (exec L T m) (ak T) g s = some s':=by
 rcases DA h with h | ⟨f,xs,r,h1,h2⟩
 ·exact ⟨0,fun m _=>h _⟩
 ·obtain ⟨n,hn⟩:=uU h1
  exact ⟨n,fun m hm=>h2 _ (uW hm f xs r hn)⟩
theorem DI : ∀ {l : List G} {s s' : ag},fM (ev L T) (ak T) l s = some s'→∃ n,∀ m,n≤m→fM (exec L T m) (ak T) l s = some s'
 | [],s,s',h=>⟨0,fun m _=>h⟩
 | g :: l,s,s',h=>by
  simp only [fM] at h ⊢
  cases h1 : eG (ev L T) (ak T) g s with
  | none=>rw [h1] at h; cases h
  | some s1 =>
   rw [h1] at h
   obtain ⟨n1,e7⟩:=DB h1
   obtain ⟨n2,hn2⟩:=DI (l:=l) h
   exact ⟨max n1 n2,fun m hm=>by rw [e7 m (by omega)]; exact hn2 m (by omega)⟩
theorem qK : ∀ {l : DT} {s s' : ag},eD (ev L T) (ak T) l s = some s'→∃ n,∀ m,n≤m→eD (exec L T m) (ak T) l s = some s'
 | .nil _,s,s',h=>⟨0,fun m _=>h⟩
 | .step _ g l,s,s',h=>by
  simp only [eD] at h ⊢
  cases h1 : eG (ev L T) (ak T) g s with
  | none=>rw [h1] at h; cases h
  | some s1 =>
   rw [h1] at h
   obtain ⟨n1,e7⟩:=DB h1
   obtain ⟨n2,hn2⟩:=qK (l:=l) h
   exact ⟨max n1 n2,fun m hm=>by rw [e7 m (by omega)]; exact hn2 m (by omega)⟩
 | .alt a b,s,s',h=>by
  simp only [eD] at h ⊢
  unfold same at h
  split at h
  ·rename_i x y hx hy
   obtain ⟨n1,e7⟩:=qK hx
   obtain ⟨n2,hn2⟩:=qK hy
   exact ⟨max n1 n2,fun m hm=>by rw [e7 m (by omega),hn2 m (by omega)]; exact h⟩
  ·cases h
 | .kp _ t,s,s',h=>qK (l:=t) h
theorem Fu {a : Option ag} {b : Nat→Option ag} (h : ∀ s,a = some s→∃ n,∀ m,n≤m→b m = some s) {o : Ex×ag} (ho : eM a = some o) : ∃ n,∀ m,n≤m→eM (b m) = some o:=by
 cases a with
 | none=>cases ho
 | some s =>
  obtain ⟨n,hn⟩:=h s rfl
  exact ⟨n,fun m hm=>by rw [hn m hm]; exact ho⟩
theorem K3 : ∀ {t : A} {s : ag} {o : Ex×ag},ai (ev L T) (ak T) t s = some o→∃ n,∀ m,n≤m→eA (exec L T m) (ak T) m t s = some o:=by
 intro t
 induction t with
 | skip=>intro s o h; exact ⟨0,fun m _=>h⟩
 | ret=>intro s o h; exact ⟨0,fun m _=>h⟩
 | exit id=>intro s o h; exact ⟨0,fun m _=>h⟩
 | ops l=>intro s o h; exact Fu (fun s h=>DI h) h
 | draw l=>intro s o h; exact Fu (fun s h=>qK h) h
 | seq a b eL fS =>
  intro s o h
  simp only [ai] at h
  simp only [eA]
  cases hr : ai (ev L T) (ak T) a s with
  | none=>rw [hr] at h; cases h
  | some r =>
   rw [hr] at h
   obtain ⟨n1,e7⟩:=eL hr
   obtain ⟨e,s1⟩:=r
   cases e with
   | normal =>
    obtain ⟨n2,hn2⟩:=fS (s:=s1) h
    exact ⟨max n1 n2,fun m hm=>by rw [e7 m (by omega)]; exact hn2 m (by omega)⟩
   | exit i=>exact ⟨n1,fun m hm=>by rw [e7 m hm]; exact h⟩
   | ret=>exact ⟨n1,fun m hm=>by rw [e7 m hm]; exact h⟩
 | cond c a b eL fS =>
  intro s o h
  simp only [ai] at h
  simp only [eA]
  split at h
  ·rename_i t ht
   try rw [ht]
   cases t with
   | true=>exact eL h
   | false=>exact fS h
  ·cases h
 | block id b ih =>
  intro s o h
  simp only [ai] at h
  simp only [eA]
  cases hr : ai (ev L T) (ak T) b s with
  | none=>rw [hr] at h; cases h
  | some r =>
   rw [hr] at h
   obtain ⟨n1,e7⟩:=ih hr
   exact ⟨n1,fun m hm=>by rw [e7 m hm]; exact h⟩
 | pk ks b ih =>
  intro s o h
  simp only [ai] at h
  simp only [eA]
  cases hr : ai (ev L T) (ak T) b s with
  | none=>rw [hr] at h; cases h
  | some r =>
   rw [hr] at h
   obtain ⟨n1,e7⟩:=ih hr
   exact ⟨n1,fun m hm=>by rw [e7 m hm]; exact h⟩
 | loop b ih =>
  intro s o h
  simp only [ai] at h
  obtain ⟨n,hn⟩:=Bp h
  have go : ∀ (n : Nat) (s : ag),iter (ai (ev L T) (ak T) b) n s = some o→∃ k,∀ m,k≤m→iter (eA (exec L T m) (ak T) m b) n s = some o:=by
   intro n
   induction n with
   | zero=>intro s h; cases h
   | succ n ihn =>
    intro s h
    simp only [iter] at h ⊢
    cases hr : ai (ev L T) (ak T) b s with
    | none=>rw [hr] at h; cases h
    | some r =>
     rw [hr] at h
     obtain ⟨n1,e7⟩:=ih hr
     obtain ⟨e,s1⟩:=r
     cases e with
     | normal =>
      obtain ⟨n2,hn2⟩:=ihn s1 h
      exact ⟨max n1 n2,fun m hm=>by rw [e7 m (by omega)]; exact hn2 m (by omega)⟩
     | exit i=>exact ⟨n1,fun m hm=>by rw [e7 m hm]; exact h⟩
     | ret=>exact ⟨n1,fun m hm=>by rw [e7 m hm]; exact h⟩
  obtain ⟨k,hk⟩:=go n s hn
  refine ⟨max k n,fun m hm=>?_⟩
  simp only [eA]
  exact oM (fun _ _ h=>h) (by omega) (hk m (by omega))
noncomputable def uT (L : bp) (T : fq) (F : Fn) (xs : List X) : Option Out :=
 if xs.length = F.n then fin F (ai (ev L T) (ak T) F.body (iH xs)) else none
theorem K4 {f : FuncId} {F : Fn} (hF : T f = some F) (xs : List X) : ev L T f xs = uT L T F xs:=by
 refine BC (fun o h=>?_) fun o h=>?_
 ·obtain ⟨n,hn⟩:=uU h
  cases n with
  | zero=>cases hn
  | succ n =>
   simp only [exec,hF] at hn
   unfold eF at hn
   unfold uT
   split at hn
   ·rename_i hl
    rw [if_pos hl]
    cases hr : eA (exec L T n) (ak T) n F.body (iH xs) with
    | none=>rw [hr] at hn; cases hn
    | some r=>rw [hr] at hn; rw [KX (K5 L T n) hr]; exact hn
   ·cases hn
 ·unfold uT at h
  split at h
  ·rename_i hl
   cases hr : ai (ev L T) (ak T) F.body (iH xs) with
   | none=>rw [hr] at h; cases h
   | some r =>
    rw [hr] at h
    obtain ⟨n,hn⟩:=K3 hr
    refine zq (n:=n + 1) ?_
    simp only [exec,hF,eF,if_pos hl,hn n (Nat.le_refl n)]
    exact h
  ·cases h
theorem oy {f : FuncId} (hF : T f = none) (xs : List X) : ev L T f xs = L f xs:=by
 refine BC (fun o h=>?_) fun o h=>?_
 ·obtain ⟨n,hn⟩:=uU h
  cases n with
  | zero=>cases hn
  | succ n=>simpa only [exec,hF] using hn
 ·refine zq (n:=1) ?_
  simpa only [exec,hF] using h
end
end M
namespace M
open Go
section
variable {C : bp} {ok : FuncId→Bool} {T : fq}
@[simp] theorem V3 (s : ag) : ai C ok .skip s = some (.normal,s):=rfl
@[simp] theorem V1 (s : ag) : ai C ok .ret s = some (.ret,s):=rfl
@[simp] theorem VX (i : Nat) (s : ag) : ai C ok (.exit i) s = some (.exit i,s):=rfl
@[simp] theorem VZ (l : List G) (s : ag) : ai C ok (.ops l) s = eM (fM C ok l s):=rfl
@[simp] theorem VW (t : DT) (s : ag) : ai C ok (.draw t) s = eM (eD C ok t s):=rfl
@[simp] theorem V2 (a b : A) (s : ag) : ai C ok (.seq a b) s = dc (ai C ok b) (ai C ok a s):=rfl
@[simp] theorem VU (i : Nat) (b : A) (s : ag) : ai C ok (.block i b) s = gB i (ai C ok b s):=rfl
@[simp] theorem VY (b : A) (s : ag) : ai C ok (.loop b) s = aE (ai C ok b) s:=rfl
@[simp] theorem V0 (ks : List Nat) (b : A) (s : ag) : ai C ok (.pk ks b) s = gO ks (ai C ok b s):=rfl
noncomputable def Dt (C : bp) (ok : FuncId→Bool) (a b : A) (s : ag) : X→bC
 | .bool t=>if t = true then ai C ok a s else ai C ok b s
 | _=>none
@[simp] theorem VV (c : AV) (a b : A) (s : ag) : ai C ok (.cond c a b) s = Dt C ok a b s (aj s c):=by
 simp only [ai]; cases aj s c <;> rfl
@[simp] theorem Vr (a b : A) (s : ag) (t : Bool) : Dt C ok a b s (.bool t) = if t = true then ai C ok a s else ai C ok b s:=rfl
@[simp] theorem VS (s : ag) : fM C ok [] s = some s:=rfl
@[simp] theorem VR (g : G) (l : List G) (s : ag) : fM C ok (g :: l) s = (eG C ok g s).bind (fM C ok l):=rfl
@[simp] theorem VN (ks : List Nat) (s : ag) : eD C ok (.nil ks) s = some (keep ks s):=rfl
@[simp] theorem VO (i : Nat) (g : G) (t : DT) (s : ag) : eD C ok (.step i g t) s = (eG C ok g s).bind (eD C ok t):=rfl
@[simp] theorem VL (a b : DT) (s : ag) : eD C ok (.alt a b) s = same (eD C ok a s) (eD C ok b s):=rfl
@[simp] theorem VM (ks : List Nat) (t : DT) (s : ag) : eD C ok (.kp ks t) s = eD C ok t (keep ks s):=rfl
@[simp] theorem Xj (s : ag) : same (some s) (some s) = some s:=by
 have : lg s s = true:=by
  induction s with
  | nil=>rfl
  | cons a l ih=>obtain ⟨k,x⟩:=a; simp [lg,X.DO,ih]
 simp [same,this]
@[simp] theorem UG (c : Prop) [Decidable c] (a b : Option ag) (f : ag→Option ag) : (if c then a else b).bind f = if c then a.bind f else b.bind f:=by split <;> rfl
def ve (C : bp) (ok : FuncId→Bool) (o : bn) (t : Nat) (b : Bool) (s : ag) : X→Option ag
 | .bool v=>if v = b then bG C ok o ((t,.bool b) :: s) else some (dr o.dst (.au []) ((t,.bool (!b)) :: s))
 | .au []=>some (dr o.dst (.au []) s)
 | _=>none
@[simp] theorem VP (o : bn) (s : ag) : eG C ok ⟨none,o⟩ s = bG C ok o s:=rfl
@[simp] theorem VQ (t : Nat) (b : Bool) (o : bn) (s : ag) : eG C ok ⟨some (t,b),o⟩ s = ve C ok o t b s (get s t):=by
 simp only [eG]
 split <;> simp_all [ve]
@[simp] theorem Wg (o : bn) (t : Nat) (b v : Bool) (s : ag) : ve C ok o t b s (.bool v) = if v = b then bG C ok o ((t,.bool b) :: s) else some (dr o.dst (.au []) ((t,.bool (!b)) :: s)):=rfl
@[simp] theorem Wh (o : bn) (t : Nat) (b : Bool) (s : ag) : ve C ok o t b s (.au []) = some (dr o.dst (.au []) s):=rfl
@[simp] theorem W4 (s : ag) : eM (some s) = some (.normal,s):=rfl
@[simp] theorem W3 : eM none = none:=rfl
@[simp] theorem WZ (c : Prop) [Decidable c] (a b : Option ag) : eM (if c then a else b) = if c then eM a else eM b:=by split <;> rfl
@[simp] theorem Xo (k : ag→bC) (s : ag) : dc k (some (.normal,s)) = k s:=rfl
@[simp] theorem Xl (k : ag→bC) (i : Nat) (s : ag) : dc k (some (.exit i,s)) = some (.exit i,s):=rfl
@[simp] theorem Xp (k : ag→bC) (s : ag) : dc k (some (.ret,s)) = some (.ret,s):=rfl
@[simp] theorem Xn (k : ag→bC) : dc k none = none:=rfl
@[simp] theorem Xm (k : ag→bC) (c : Prop) [Decidable c] (a b : bC) : dc k (if c then a else b) = if c then dc k a else dc k b:=by split <;> rfl
@[simp] theorem UK (i : Nat) (s : ag) : gB i (some (.normal,s)) = some (.normal,s):=rfl
@[simp] theorem UH (i j : Nat) (s : ag) : gB i (some (.exit j,s)) = if j = i then some (.normal,s) else some (.exit j,s):=rfl
@[simp] theorem UL (i : Nat) (s : ag) : gB i (some (.ret,s)) = some (.ret,s):=rfl
@[simp] theorem UJ (i : Nat) : gB i none = none:=rfl
@[simp] theorem UI (i : Nat) (c : Prop) [Decidable c] (a b : bC) : gB i (if c then a else b) = if c then gB i a else gB i b:=by split <;> rfl
@[simp] theorem Xd (ks : List Nat) (s : ag) : gO ks (some (.normal,s)) = some (.normal,keep ks s):=rfl
@[simp] theorem Xa (ks : List Nat) (i : Nat) (s : ag) : gO ks (some (.exit i,s)) = some (.exit i,s):=rfl
@[simp] theorem Xe (ks : List Nat) (s : ag) : gO ks (some (.ret,s)) = some (.ret,s):=rfl
@[simp] theorem Xc (ks : List Nat) : gO ks none = none:=rfl
@[simp] theorem Xb (ks : List Nat) (c : Prop) [Decidable c] (a b : bC) : gO ks (if c then a else b) = if c then gO ks a else gO ks b:=by split <;> rfl
def mG (rs : List RV) (n : Nat) : bC→Option Out
 | some (.exit _,_)=>none
 | some (_,s)=>if X.clean.bD (cB rs s).1 = true∧(cB rs s).1.any X.iq = false then some (nF (cB rs s).1,kG 0 n (cB rs s).2) else none
 | none=>none
def zw (rs : List RV) (n : Nat) (s : ag) : Option Out:=if X.clean.bD (cB rs s).1 = true∧(cB rs s).1.any X.iq = false then some (nF (cB rs s).1,kG 0 n (cB rs s).2) else none
theorem ay {L : bp} {T : fq} {f : FuncId} {b : A} {rs : List RV} {n : Nat} (h : T f = some ⟨b,rs,n⟩) {xs : List X} (hl : xs.length = n) : ev L T f xs = mG rs n (ai (ev L T) (ak T) b (iH xs)):=by
 rw [K4 h]
 unfold uT
 rw [if_pos hl]
 rfl
@[simp] theorem Wf (rs : List RV) (n : Nat) (s : ag) : mG rs n (some (.ret,s)) = zw rs n s:=rfl
@[simp] theorem We (rs : List RV) (n : Nat) (s : ag) : mG rs n (some (.normal,s)) = zw rs n s:=rfl
@[simp] theorem Wd (rs : List RV) (n : Nat) : mG rs n none = none:=rfl
@[simp] theorem Wc (rs : List RV) (n : Nat) (c : Prop) [Decidable c] (a b : bC) : mG rs n (if c then a else b) = if c then mG rs n a else mG rs n b:=by split <;> rfl
@[simp] theorem Xh (d : Option Nat) (s : ag) (r : X) (ps : List X) : kH d s (some (r,ps)) = some (dr d r s):=rfl
@[simp] theorem Xg (d : Option Nat) (s : ag) : kH d s none = none:=rfl
@[simp] theorem Xf (d : Option Nat) (s : ag) (c : Prop) [Decidable c] (a b : Option Out) : kH d s (if c then a else b) = if c then kH d s a else kH d s b:=by split <;> rfl
end
attribute [simp] zw bG iH tX tY cB kG post nF X.iq X.clean X.clean.bD X.clean.aQ keep xY uH k7 od
end M
namespace M
open Go
def oq (f0 z bytes : Nat) : bp:=fun f xs=>if f = f0 then (match xs with
 | [.row .af z' rows]=>if z' = z∧rows.length * bytes≤140737488355328∧iB rows = true∧(tA rows = true∨rows = []) then some (.row .own z rows,[.dead]) else none
 | _=>none) else none
def gN (L L' : bp) : bp:=fun f xs=>match L f xs with
 | some o=>some o
 | none=>L' f xs
theorem tg [Bs] {P : Program} {L L' : bp} (h : L.Sound P) (h' : L'.Sound P) : (gN L L').Sound P:=fun f xs o e=>by
 unfold gN at e
 split at e
 ·rename_i o' e'
  cases e
  exact h f xs _ e'
 ·exact h' f xs _ e
end M
namespace M
open Go
def Ry : X→Bool
 | .str s=>decide (s.size≤9223372036854775807)
 | x=>scalar x
def pQ (f0 : FuncId) (g : List X→Option X) : bp:=fun f xs=>if f = f0 then (match g xs with
 | some r=>if xs.all scalar = true∧Ry r = true then some (r,xs.map fun _=>.dead) else none
 | none=>none) else none
end M
namespace M
open Go Go.Sort
def kT [B : Bs] (w : World) : Prop:=∀ b,b < B.W0.heap.size→w.heap[b]? = B.W0.heap[b]?
theorem TabIs.same [B : Bs] {P : Program} {w : World} {n : String} {k : IntKind} {zs : List Int} (h : Lib.TabIs P B.W0 n k zs) (hw : kT w) : Lib.TabIs P w n k zs:=by
 unfold Lib.TabIs World.var? at h ⊢
 cases hg : P.globalNamed n with
 | none=>rw [hg] at h; cases h
 | some g =>
  rw [hg] at h
  simp only [Option.bind_some] at h ⊢
  have hlt : g < B.W0.heap.size:=by
   rcases Nat.lt_or_ge g B.W0.heap.size with h' | h'
   ·exact h'
   ·rw [Array.getElem?_eq_none h'] at h; cases h
  rw [hw g hlt]
  exact h
theorem RA {P : Program} {W : World} {name : String} {k : IntKind} {zs : List Int} {g : Nat} {t e : TypeId} {n : Nat}
  (hg : P.globalNamed name = some g) (hty : (P.globals[g]?).map (·.type) = some t) (ht : P.underlying t = some (.array n e)) (he : P.underlying e = some (.int k)) (hce : P.cellsOf e = 1) (hct : P.cellsOf t = n) :
  ∀ {l : List (String×DataW Unit)} {ps : List MemPlace},DataW.LaidVars P W l ps→(name,Lib.tabData k zs)∈l→Lib.TabIs P W name k zs
 | [],_,_,h=>by cases h
 | (nm,d) :: l,ps,h,hm=>by
  obtain ⟨g',t',cs,fuel,p,q,hg',ht',hvar,hd,hr,_⟩:=h
  rcases List.mem_cons.1 hm with hm | hm
  ·obtain ⟨rfl,rfl⟩:=Prod.mk.inj hm
   obtain rfl:=Option.some.inj (hg.symm.trans hg')
   obtain rfl:=Option.some.inj (hty.symm.trans ht')
   unfold Lib.TabIs
   rw [hvar,← Lib.cells_of_tab ht he hce hct hd]
  ·exact RA hg hty ht he hce hct hr hm
end M
namespace M
open Go
def lv : Ex×ag→bC
 | (.normal,_)=>none
 | (.ret,s)=>some (.ret,s)
 | (.exit i,s)=>some (.exit i,s)
def iy {β γ : Type} (go : β→γ→γ ⊕ (Ex×ag)) : List β→γ→γ ⊕ (Ex×ag)
 | [],g=>.inl g
 | b :: l,g=>match go b g with
  | .inl g'=>iy go l g'
  | .inr o=>.inr o
theorem wZ {xt : Nat} {β γ : Type} {f : ag→bC} (l : List β) (st : Nat→γ→ag) (go : β→γ→γ ⊕ (Ex×ag)) (E : γ→ag) (Inv : Nat→γ→Prop) (g : γ) (h0 : Inv 0 g)
  (h : ∀ i b g,l[i]? = some b→i < l.length→Inv i g→f (st i g) = (match go b g with | .inl g'=>some (.normal,st (i + 1) g') | .inr o=>lv o))
  (hI : ∀ i b g g',l[i]? = some b→Inv i g→go b g = .inl g'→Inv (i + 1) g')
  (hend : ∀ g,Inv l.length g→f (st l.length g) = some (.exit xt,E g)) :
  aE f (st 0 g) = match iy go l g with | .inl g'=>some (.exit xt,E g') | .inr o=>lv o:=by
 suffices H : ∀ (r : List β) (i : Nat) (g : γ),Inv i g→l.drop i = r→i≤l.length→aE f (st i g) = match iy go r g with | .inl g'=>some (.exit xt,E g') | .inr o=>lv o from H l 0 g h0 rfl (Nat.zero_le _)
 intro r
 induction r with
 | nil =>
  intro i g hi hr hl
  have : i = l.length:=by
   have:=congrArg List.length hr
   simp at this
   omega
  subst this
  rw [iW,hend g hi]
  rfl
 | cons b r ih =>
  intro i g hi hr hl
  have hlt : i < l.length:=by
   rcases Nat.lt_or_ge i l.length with h | h
   ·exact h
   ·rw [List.drop_eq_nil_of_le h] at hr; cases hr
  have hb : l[i]? = some b:=by
   have:=List.drop_eq_getElem_cons hlt
   rw [hr] at this
   rw [List.getElem?_eq_getElem hlt]
   cases this; rfl
  have hr' : l.drop (i + 1) = r:=by
   have:=List.drop_eq_getElem_cons hlt
   rw [hr] at this
   cases this; rfl
  rw [iW,h i b g hb hlt hi]
  unfold iy
  cases hg : go b g with
  | inl g'=>exact ih (i + 1) g' (hI i b g g' hb hi hg) hr' hlt
  | inr o =>
   obtain ⟨e,s⟩:=o
   cases e <;> simp [dc,lv]
def aF {α : Type} (p : α→Bool) (l : List α) : Bool:=l.all p
theorem iF {α : Type} {p : α→Bool} {l : List α} : aF p l = true↔∀ x∈l,p x = true:=List.all_eq_true
theorem cj {xt : Nat} {β : Type} {f : ag→bC} (l : List β) (st : Nat→ag) (p : β→Bool) (R E : ag)
  (h : ∀ i b,l[i]? = some b→i < l.length→f (st i) = if p b = true then some (.normal,st (i + 1)) else some (.ret,R))
  (hend : f (st l.length) = some (.exit xt,E)) :
  aE f (st 0) = if aF p l = true then some (.exit xt,E) else some (.ret,R):=by
 show _ = if l.all p = true then _ else _
 have H:=wZ (f:=f) l (fun i (_ : Unit)=>st i) (fun b _=>if p b = true then .inl () else .inr (.ret,R)) (fun _=>E) (fun _ _=>True) () trivial
  (fun i b g hb hl _=>by rw [h i b hb hl]; by_cases hp : p b = true <;> simp [hp,lv]) (fun _ _ _ _ _ _ _=>trivial) fun _ _=>hend
 refine H.trans ?_
 have : ∀ r : List β,iy (fun b (_ : Unit)=>if p b = true then .inl () else .inr (Ex.ret,R)) r () = if r.all p = true then .inl () else .inr (.ret,R):=by
  intro r
  induction r with
  | nil=>rfl
  | cons b r ih =>
   simp only [iy]
   by_cases hp : p b = true
   ·simp [hp,ih]
   ·simp [hp]
 rw [this]
 by_cases hp : l.all p = true <;> simp [hp,lv]
theorem Bq {xt : Nat} {β γ : Type} {f : ag→bC} (l : List β) (st : Nat→γ→ag) (go : γ→β→γ) (E : γ→ag) (Inv : Nat→γ→Prop) (g : γ) (h0 : Inv 0 g)
  (h : ∀ i b g,l[i]? = some b→i < l.length→Inv i g→f (st i g) = some (.normal,st (i + 1) (go g b)))
  (hI : ∀ i b g,l[i]? = some b→Inv i g→Inv (i + 1) (go g b))
  (hend : ∀ g,Inv l.length g→f (st l.length g) = some (.exit xt,E g)) :
  aE f (st 0 g) = some (.exit xt,E (l.foldl go g)):=by
 refine (wZ (f:=f) l st (fun b g=>.inl (go g b)) E Inv g h0 h (fun i b g g' hb hi e=>by cases e; exact hI i b g hb hi) hend).trans ?_
 have : ∀ (r : List β) (g : γ),iy (fun b g=>.inl (go g b)) r g = (.inl (r.foldl go g) : γ ⊕ (Ex×ag)):=by
  intro r
  induction r with
  | nil=>intro g; rfl
  | cons b r ih=>intro g; simp only [iy,List.foldl_cons]; exact ih _
 rw [this]
theorem iX {xt : Nat} {β : Type} {f : ag→bC} (l : List β) (st : Nat→ag) (E : ag)
  (h : ∀ i b,l[i]? = some b→i < l.length→f (st i) = some (.normal,st (i + 1)))
  (hend : f (st l.length) = some (.exit xt,E)) : aE f (st 0) = some (.exit xt,E) :=
 Bq l (fun i (_ : Unit)=>st i) (fun _ _=>()) (fun _=>E) (fun _ _=>True) () trivial (fun i b _ hb hl _=>h i b hb hl) (fun _ _ _ _ _=>trivial) fun _ _=>hend
theorem ct {n : Int} (h1 : -9223372036854775808≤n) (h2 : n≤9223372036854775807) : IntKind.i64.wrap n = n:=by
 simp only [IntKind.wrap,IntKind.signed,IntKind.bits,Bool.true_and,decide_eq_true_eq]
 split <;> rename_i h <;> simp at h <;> omega
theorem aL (n : Nat) (h : n < 9223372036854775807) : IntKind.i64.wrap (↑n + 1) = ↑n + 1:=ct (by omega) (by omega)
attribute [simp] base xP dW look B9 tV Bo uI w9 tv gw ei
abbrev ah:=List UInt8
@[simp] theorem Xk (s : ah) : ByteArray.size ⟨s.toArray⟩ = s.length:=by simp [ByteArray.size]
@[simp] theorem str_inj (s t : ah) : ((⟨s.toArray⟩ : ByteArray) = ⟨t.toArray⟩)↔s = t:=by
 constructor
 ·intro h
  injection h with h
  simpa using congrArg Array.toList h
 ·rintro rfl; rfl
theorem Rx (s t : ah) : (⟨s.toArray⟩ : ByteArray) ++ ⟨t.toArray⟩ = ⟨(s ++ t).toArray⟩:=by
 apply ByteArray.ext
 rw [ByteArray.data_append]
 simp
@[simp] def eS (s : ah) : List X:=[.str ⟨s.toArray⟩]
structure Wr where
 at_ : Int
 text : ah
 deriving DecidableEq
structure eu where
 cells : List ah
 pending : List Wr
 deriving DecidableEq
@[simp] def eW (w : Wr) : List X:=[.int .i64 w.at_,.str ⟨w.text.toArray⟩]
@[simp] def ga (m : Md) (d : eu) : List X:=[.row m 1 (d.cells.map eS),.row m 2 (d.pending.map eW)]
@[simp] theorem WT (m : Md) (l : List ah) : X.bk m (l.map eS) = l.map eS:=by induction l <;> simp_all [X.bk,X.cG,X.md]
@[simp] theorem WX (m : Md) (l : List Wr) : X.bk m (l.map eW) = l.map eW:=by induction l <;> simp_all [X.bk,X.cG,X.md]
@[simp] theorem Vc (l : List ah) : X.clean.aQ (l.map eS) = true:=by induction l <;> simp_all [X.clean.aQ,X.clean.bD,X.clean]
@[simp] theorem Vg (l : List Wr) : X.clean.aQ (l.map eW) = true:=by induction l <;> simp_all [X.clean.aQ,X.clean.bD,X.clean]
def cO {α : Type} (f : α→Int→Int) : List α→Int→Int
 | [],n=>n
 | a :: l,n=>if f a n < 0 then -1 else cO f l (f a n)
theorem lV {xt : Nat} {β : Type} {f : ag→bC} (l : List β) (st : Nat→Int→ag) (z : β→Int→Int) (R : ag) (E : Int→ag) (n : Int) (hn : 0≤n) (hm : n≤9223372036854775807)
  (hz : ∀ a n,z a n≤n∨z a n < 0)
  (h : ∀ i b n,l[i]? = some b→i < l.length→0≤n→n≤9223372036854775807→f (st i n) = if z b n < 0 then some (.ret,R) else some (.normal,st (i + 1) (z b n)))
  (hend : ∀ n,f (st l.length n) = some (.exit xt,E n)) :
  aE f (st 0 n) = if cO z l n < 0 then some (.ret,R) else some (.exit xt,E (cO z l n)):=by
 have H:=wZ (f:=f) l st (fun b n=>if z b n < 0 then .inr (.ret,R) else .inl (z b n)) E (fun _ n=>0≤n∧n≤9223372036854775807) n ⟨hn,hm⟩
  (fun i b n hb hl hi=>by rw [h i b n hb hl hi.1 hi.2]; by_cases hp : z b n < 0 <;> simp [hp,lv]) (fun i b g g' hb hi hg=>by
   by_cases hp : z b g < 0
   ·simp [hp] at hg
   ·simp [hp] at hg
    have:=hz b g
    omega) fun g _=>hend g
 refine H.trans ?_
 have : ∀ (r : List β) (n : Int),0≤n→iy (fun b n=>if z b n < 0 then .inr (Ex.ret,R) else .inl (z b n)) r n = if cO z r n < 0 then .inr (.ret,R) else .inl (cO z r n):=by
  intro r
  induction r with
  | nil=>intro n hn; rw [if_neg (by simp [cO]; omega)]; rfl
  | cons b r ih =>
   intro n hn
   simp only [iy,cO]
   by_cases hp : z b n < 0
   ·simp [hp]
   ·simp only [hp,if_false]
    exact ih _ (by omega)
 rw [this l n hn]
 by_cases hp : cO z l n < 0 <;> simp [hp,lv]
theorem PE {α β : Type} (l : List α) (e : α→β) (z : β) (g : β→β) {i : Nat} (hi : i < l.length) (hg : g z = e l[i]) :
  ((l.take i).map e ++ List.replicate (l.length - i) z).modify i g = (l.take (i + 1)).map e ++ List.replicate (l.length - (i + 1)) z:=by
 apply List.ext_getElem?
 intro j
 rw [List.getElem?_modify]
 rcases Nat.lt_trichotomy j i with h | h | h
 ·rw [List.getElem?_append_left (by simp; omega),List.getElem?_append_left (by simp; omega)]
  simp only [List.getElem?_map,List.getElem?_take,if_pos h,if_pos (Nat.lt_succ_of_lt h),if_neg (Nat.ne_of_gt h)]
  cases l[j]? <;> rfl
 ·subst h
  rw [List.getElem?_append_right (by simp; omega),List.getElem?_append_left (by simp; omega)]
  have : j - ((l.take j).map e).length = 0:=by simp; omega
  rw [this,List.getElem?_replicate_of_lt (by omega)]
  simp only [List.getElem?_map,List.getElem?_take,if_pos (Nat.lt_succ_self j),List.getElem?_eq_getElem hi,if_true,Option.map_some,← hg]
  rfl
 ·rw [List.getElem?_append_right (by simp; omega),List.getElem?_append_right (by simp; omega)]
  have h1 : j - ((l.take i).map e).length = j - i:=by simp; omega
  have h2 : j - ((l.take (i + 1)).map e).length = j - (i + 1):=by simp; omega
  rw [h1,h2,List.getElem?_replicate,List.getElem?_replicate]
  by_cases h3 : j < l.length
  ·rw [if_pos (by omega),if_pos (by omega)]
   simp only [Nat.ne_of_lt h,if_false]
   rfl
  ·rw [if_neg (by omega),if_neg (by omega)]
   rfl
def cC (rows : List (List X)) (i : Nat) (z : List X) : List (List X):=rows.take i ++ List.replicate (rows.length - i) z
@[simp] theorem Wa (rows : List (List X)) (i : Nat) (z : List X) : (cC rows i z).length = rows.length:=by simp [cC]; omega
@[simp] theorem K8 (rows : List (List X)) (i : Nat) (z : List X) (h : i < rows.length) : (cC rows i z)[i]? = some z:=by
 unfold cC
 rw [List.getElem?_append_right (by simp; omega),List.getElem?_replicate_of_lt (by simp; omega)]
@[simp] theorem V9 (rows : List (List X)) (i : Nat) (z : List X) (h : i < (cC rows i z).length) : (cC rows i z)[i] = z:=by
 have h' : i < rows.length:=by simpa using h
 have:=K8 rows i z h'
 rw [List.getElem?_eq_getElem h] at this
 exact Option.some.inj this
@[simp] theorem Wb (rows : List (List X)) (z : List X) : cC rows 0 z = List.replicate rows.length z:=by simp [cC]
@[simp] theorem V8 (rows : List (List X)) (i : Nat) (z : List X) (h : i = rows.length) : cC rows i z = rows:=by subst h; simp [cC]
@[simp] theorem eH (rows : List (List X)) (i : Nat) (z : List X) (g : List X→List X) (h : i < rows.length) (hg : g z = rows[i]) : (cC rows i z).modify i g = cC rows (i + 1) z:=by
 have:=PE rows id z g h (by simpa using hg)
 simpa [cC] using this
theorem kD {α : Type} (l : List α) (i : Nat) (f g : α→α) : (l.modify i f).modify i g = l.modify i fun x=>g (f x):=by
 apply List.ext_getElem?
 intro j
 simp only [List.getElem?_modify]
 by_cases h : i = j
 ·simp only [h,if_true]; cases l[j]? <;> rfl
 ·simp only [h,if_false]; cases l[j]? <;> rfl
theorem iD {α β : Type} : ∀ {a : List α} {b : List β},a.length = b.length→∃ ps : List (α×β),a = ps.map Prod.fst∧b = ps.map Prod.snd
 | [],[],_=>⟨[],rfl,rfl⟩
 | x :: a,y :: b,h=>by
  obtain ⟨ps,h1,h2⟩:=iD (a:=a) (b:=b) (by simpa using h)
  exact ⟨(x,y) :: ps,by simp [← h1],by simp [← h2]⟩
 | [],_ :: _,h=>by cases h
 | _ :: _,[],h=>by cases h
def bE {α : Type} [DecidableEq α] (x : α×α) : Bool:=decide (x.1 = x.2)
theorem gU {α : Type} [DecidableEq α] : ∀ ps : List (α×α),aF bE ps = decide (ps.map Prod.fst = ps.map Prod.snd)
 | []=>rfl
 | x :: ps=>by
  have:=gU ps
  unfold aF at this ⊢
  simp only [List.all_cons,this,bE,List.map_cons,List.cons.injEq]
  exact (Bool.decide_and ..).symm
def js (new old : List (List X)) (i : Nat) : List (List X):=new.take i ++ old.drop i
@[simp] theorem DR (new old : List (List X)) (i : Nat) (h : new.length = old.length) : (js new old i).length = old.length:=by simp [js]; omega
@[simp] theorem K7 (new old : List (List X)) (i : Nat) (h : new.length = old.length) (hi : i < old.length) : (js new old i)[i]? = old[i]?:=by
 unfold js
 rw [List.getElem?_append_right (by simp; omega),List.getElem?_drop]
 congr 1
 simp; omega
@[simp] theorem V6 (new old : List (List X)) (i : Nat) (hl : i < (js new old i).length) (h : new.length = old.length) : (js new old i)[i] = old[i]'(by rw [DR _ _ _ h] at hl; exact hl):=by
 have hi : i < old.length:=by rw [DR _ _ _ h] at hl; exact hl
 have:=K7 new old i h hi
 rw [List.getElem?_eq_getElem hl,List.getElem?_eq_getElem hi] at this
 exact Option.some.inj this
@[simp] theorem V7 (new old : List (List X)) : js new old 0 = old:=by simp [js]
@[simp] theorem V5 (new old : List (List X)) (i : Nat) (h : new.length = old.length) (hi : i = old.length) : js new old i = new:=by subst hi; rw [← h]; simp [js]; omega
def nw (n : Nat) (out : ah) : ah:=if h : n = 0 then out else nw (n / 10) (UInt8.ofNat (48 + n % 10) :: out)
termination_by n
decreasing_by omega
def sS (k : Int) : ah:=if k≤0 then [109,48] else 109 :: nw k.toNat []
def sU (n : Nat) (k : Int) : List ah:=(List.range n).map fun (i : Nat)=>sS (k + i)
def sV (n : Nat) (k : Int) : List Wr:=(List.range n).map fun (i : Nat)=>⟨k + 2 * i,sS (k + 2 * i + 1)⟩
@[simp] theorem WB (n : Nat) (k : Int) : (sU n k).length = n:=by simp [sU]
@[simp] theorem WD (n : Nat) (k : Int) : (sV n k).length = n:=by simp [sV]
@[simp] theorem WA (n : Nat) (k : Int) (i : Nat) (h : i < (sU n k).length) : (sU n k)[i] = sS (k + i):=by simp [sU]
@[simp] theorem WC (n : Nat) (k : Int) (i : Nat) (h : i < (sV n k).length) : (sV n k)[i] = ⟨k + 2 * i,sS (k + 2 * i + 1)⟩:=by simp [sV]
def foldI {β γ : Type} (go : Nat→γ→β→γ) : Nat→List β→γ→γ
 | _,[],g=>g
 | i,b :: l,g=>foldI go (i + 1) l (go i g b)
theorem Fi {xt : Nat} {β γ : Type} {f : ag→bC} (l : List β) (st : Nat→γ→ag) (go : Nat→γ→β→γ) (E : γ→ag) (Inv : Nat→γ→Prop) (g : γ) (h0 : Inv 0 g)
  (h : ∀ i b g,l[i]? = some b→i < l.length→Inv i g→f (st i g) = some (.normal,st (i + 1) (go i g b)))
  (hI : ∀ i b g,l[i]? = some b→Inv i g→Inv (i + 1) (go i g b))
  (hend : ∀ g,Inv l.length g→f (st l.length g) = some (.exit xt,E g)) :
  aE f (st 0 g) = some (.exit xt,E (foldI go 0 l g)):=by
 suffices H : ∀ (r : List β) (i : Nat) (g : γ),Inv i g→l.drop i = r→i≤l.length→aE f (st i g) = some (.exit xt,E (foldI go i r g)) from H l 0 g h0 rfl (Nat.zero_le _)
 intro r
 induction r with
 | nil =>
  intro i g hi hr hl
  have : i = l.length:=by
   have:=congrArg List.length hr
   simp at this
   omega
  subst this
  rw [iW,hend g hi]
  rfl
 | cons b r ih =>
  intro i g hi hr hl
  have hlt : i < l.length:=by
   rcases Nat.lt_or_ge i l.length with h | h
   ·exact h
   ·rw [List.drop_eq_nil_of_le h] at hr; cases hr
  have hd:=List.drop_eq_getElem_cons hlt
  rw [hr] at hd
  have hb : l[i]? = some b:=by
   rw [List.getElem?_eq_getElem hlt]
   cases hd; rfl
  have hr' : l.drop (i + 1) = r:=by cases hd; rfl
  rw [iW,h i b g hb hlt hi]
  exact ih (i + 1) _ (hI i b g hb hi) hr' hlt
@[simp] theorem WY (cs : List ah) (n : Nat) (t : ah) : (cs.map eS).modify n (fun x=>x.set 0 (X.str ⟨t.toArray⟩)) = (cs.set n t).map eS:=by
 apply List.ext_getElem?
 intro j
 rw [List.getElem?_modify,List.getElem?_map,List.getElem?_map,List.getElem?_set]
 by_cases h : n = j
 ·subst h
  simp only [if_true]
  by_cases h2 : n < cs.length
  ·simp [h2]
  ·simp [h2,List.getElem?_eq_none (Nat.le_of_not_lt h2)]
 ·simp only [h,if_false]
  cases cs[j]? <;> rfl
@[simp] def eB (b : Bool) : List X:=[.bool b]
@[simp] theorem WG (m : Md) (l : List Bool) : X.bk m (l.map eB) = l.map eB:=by induction l <;> simp_all [X.bk,X.cG,X.md]
@[simp] theorem U0 (l : List Bool) : X.clean.aQ (l.map eB) = true:=by induction l <;> simp_all [X.clean.aQ,X.clean.bD,X.clean]
theorem Rf (l : List ah) : iB (l.map eS) = true:=by induction l <;> simp_all [iB,scalar]
theorem Rg (l : List Wr) : iB (l.map eW) = true:=by induction l <;> simp_all [iB,scalar]
attribute [simp] Rf Rg
@[simp] theorem UZ (a b : List (List X)) : X.clean.aQ (a ++ b) = (X.clean.aQ a && X.clean.aQ b):=by
 induction a with
 | nil=>simp [X.clean.aQ]
 | cons e a ih=>simp [X.clean.aQ,ih,Bool.and_assoc]
@[simp] theorem WE (m : Md) (a b : List (List X)) : X.bk m (a ++ b) = X.bk m a ++ X.bk m b:=by
 induction a with
 | nil=>simp [X.bk]
 | cons e a ih=>simp [X.bk,ih]
structure jQ where
 code : List UInt8
 i : Nat
 h : Int
 hi : i≤code.length
 hl : code.length≤9223372036854775807
@[simp] def eU (b : UInt8) : List X:=[.int .u8 (b.toNat : Int)]
@[simp] theorem WW (m : Md) (l : List UInt8) : X.bk m (l.map eU) = l.map eU:=by induction l <;> simp_all [X.bk,X.cG,X.md]
@[simp] theorem Vf (l : List UInt8) : X.clean.aQ (l.map eU) = true:=by induction l <;> simp_all [X.clean.aQ,X.clean.bD,X.clean]
def fZ (c : jQ) : List X:=[.row .sl 1 (c.code.map eU),.int .i64 c.i,.int .i64 c.h]
@[simp] theorem VI (c : jQ) : (fZ c).length = 3:=rfl
@[simp] theorem VK (c : jQ) : (fZ c).take 3 = fZ c:=rfl
@[simp] theorem VF (c : jQ) : (fZ c).drop 3 = []:=rfl
@[simp] theorem VJ (ks : List Nat) (c : jQ) : X.kE ks (fZ c) = fZ c:=rfl
@[simp] theorem VG (r : Nat) (p : Path) (c : jQ) : X.dV r p (fZ c) = fZ c:=rfl
@[simp] theorem VH (r : Nat) (p : Path) (c : jQ) : X.kr r p (fZ c) = fZ c:=rfl
@[simp] theorem VE (c : jQ) : X.clean.bD (fZ c) = true:=by simp [fZ,X.clean.bD,X.clean]
@[simp] theorem VD (c : jQ) : X.bare.fy (fZ c) = true:=by simp [fZ,X.bare.fy,X.bare]
end M
namespace M
open Go Go.RowKit
inductive Ty where
 | int (k : IntKind)
 | bool
 | str
 | row (ts : List Ty)
inductive eT : Ty→X→Prop
 | int {k n} : (Lit.int k n).wf = true→eT (.int k) (.int k n)
 | bool {b} : eT .bool (.bool b)
 | str {s : ByteArray} : s.size≤maxLen→eT .str (.str s)
 | row {ts xs} : xs.length≤maxLen→(∀ r : List X,r∈xs→r.length = ts.length)→(∀ (r : List X),r∈xs→∀ (j : Nat) ty x,ts[j]? = some ty→r[j]? = some x→eT ty x)→eT (.row ts) (.row .sl ts.length xs)
structure ux (w : World) (ty : Ty) (c : C) : Prop where
 cell : c.cell
 bM : c.bM
 fits : c.fits .sl
 ok : c.ok w (Zf (fun b _=>b < w.heap.size) fun _ _=>False)
 fp : ∀ b k,¬ c.fp b k
 qG : eT ty c.er
def gD (w : World) : List Ty→List Value→List C→Prop
 | [],[],[]=>True
 | ty :: ts,v :: vs,c :: cs=>c.val = v∧ux w ty c∧gD w ts vs cs
 | _,_,_=>False
theorem Em {w : World} : ∀ {ts : List Ty} {vs : List Value} {cs : List C} {ts' : List Ty} {vs' : List Value} {cs' : List C},gD w ts vs cs→gD w ts' vs' cs'→gD w (ts ++ ts') (vs ++ vs') (cs ++ cs')
 | [],[],[],_,_,_,_,h=>h
 | _ :: _,_ :: _,_ :: _,_,_,_,⟨h1,h2,h3⟩,h=>⟨h1,h2,Em h3 h⟩
theorem En {w : World} : ∀ {ts : List Ty} {vs : List Value} {cs : List C},gD w ts vs cs→vs.length = ts.length∧cs.length = ts.length∧vs = cs.map C.val
 | [],[],[],_=>⟨rfl,rfl,rfl⟩
 | _ :: _,_ :: _,_ :: _,⟨h1,h2,h3⟩=>by
  obtain ⟨e1,e2,e3⟩:=En h3
  exact ⟨by simp [e1],by simp [e2],by simp [h1,← e3]⟩
theorem zJ {w : World} : ∀ {ts : List Ty} {vs : List Value} {cs : List C},gD w ts vs cs→∀ {j : Nat},j < ts.length→∃ ty c,ts[j]? = some ty∧cs[j]? = some c∧vs[j]? = some c.val∧ux w ty c
 | ty :: ts,v :: vs,c :: cs,⟨h1,h2,h3⟩,0,_=>⟨ty,c,rfl,rfl,by simp [h1],h2⟩
 | ty :: ts,v :: vs,c :: cs,⟨h1,h2,h3⟩,j + 1,h=>by
  obtain ⟨ty,c,a1,a2,a3,a4⟩:=zJ h3 (j:=j) (by simpa using h)
  exact ⟨ty,c,by simpa using a1,by simpa using a2,by simpa using a3,a4⟩
def qk (P : Program) (r : TypeId→Option (List Ty)) : Nat→List Field→Option (List Ty)
 | _,[]=>some []
 | o,f :: fs=>if f.offset = o then (r f.type).bind fun ts=>if ts.length = P.cellsOf f.type then (qk P r (o + ts.length) fs).map (ts ++ ·) else none else none
def fo (P : Program) : Nat→Bool→TypeId→Option (List Ty)
 | 0,_,_=>none
 | n + 1,deep,t=>match P.underlying t with
  | some .bool=>some [.bool]
  | some (.int k)=>some [.int k]
  | some .string=>some [.str]
  | some (.slice e)=>if deep then (fo P n true e).bind fun ts=>if ts.length = P.cellsOf e∧0 < P.cellsOf e then some [.row ts] else none else none
  | some (.struct fs)=>(qk P (fo P n deep) 0 fs.toList).bind fun ts=>if ts.length = P.cellsOf t then some ts else none
  | _=>none
section
variable {H : Type} {enc : TypeId×Value→H} {P : Program} {w : World} {sp : Nat→Bool} {held : Bool}
theorem Gr {r : TypeId→Option (List Ty)} {cs : List Value}
  (hr : ∀ t ts fuel cs' x,r t = some ts→DataW.trod enc P w 0 sp held fuel t cs' = some x→(∀ v∈cs',v∈cs)→∃ Cs,gD w ts cs' Cs) :
  ∀ (fs : List Field) (o : Nat) (ts : List Ty),qk P r o fs = some ts→(∀ f∈fs,∃ fuel x,DataW.trod enc P w 0 sp held fuel f.type ((cs.drop f.offset).take (P.cellsOf f.type)) = some x) →
   ∃ Cs,gD w ts ((cs.drop o).take ts.length) Cs
 | [],o,ts,h,_=>by
  cases h
  exact ⟨[],by simp [gD]⟩
 | f :: fs,o,ts,h,hx=>by
  simp only [qk] at h
  split at h
  ·rename_i ho
   simp only [Option.bind_eq_some_iff] at h
   obtain ⟨t1,h1,h⟩:=h
   split at h
   ·rename_i hl
    simp only [Option.map_eq_some_iff] at h
    obtain ⟨t2,h2,rfl⟩:=h
    obtain ⟨fuel,x,hf⟩:=hx f (List.mem_cons_self ..)
    obtain ⟨C1,g1⟩:=hr _ _ _ _ _ h1 hf fun v hv=>List.mem_of_mem_drop (List.mem_of_mem_take hv)
    obtain ⟨C2,g2⟩:=Gr hr fs _ _ h2 fun f hf=>hx f (List.mem_cons_of_mem _ hf)
    refine ⟨C1 ++ C2,?_⟩
    rw [List.length_append,List.take_add,List.drop_drop]
    rw [ho,← hl] at g1
    exact Em g1 g2
   ·cases h
  ·cases h
theorem Rr {w : World} {g o n m : Nat} {spot : Option Nat} {vs : List Value} (hn : 0 < n) (h : w.cells? 0 ((⟨g,o,spot⟩ : Addr).add (0 * m)) n = some vs) : spot = none:=by
 obtain ⟨_,hl,e3⟩:=World.cells?_some h
 have e4:=e3 0 hn
 have : ∃ v,vs[0]? = some v:=⟨vs[0],List.getElem?_eq_getElem (by omega)⟩
 obtain ⟨v,hv⟩:=this
 rw [hv] at e4
 have ha : ((⟨g,o,spot⟩ : Addr).add (0 * m)).add 0 = ⟨g,o,spot⟩:=by simp [Addr.add]
 rw [ha] at e4
 unfold World.cell? at e4
 cases spot with
 | none=>rfl
 | some k =>
  split at e4
  ·simp at e4
  ·cases e4
theorem trod_good : ∀ (n : Nat) (deep : Bool) (t : TypeId) (ts : List Ty),fo P n deep t = some ts→∀ (fuel : Nat) (cs : List Value) (x : DataW H×List MemPlace),DataW.trod enc P w 0 sp held fuel t cs = some x→∃ Cs,gD w ts cs Cs
 | 0,_,_,_,h,_,_,_,_=>by cases h
 | n + 1,deep,t,ts,h,fuel,cs,x,hx=>by
  simp only [fo] at h
  split at h
  ·rename_i hu
   cases h
   obtain ⟨b,rfl,rfl⟩:=DataW.trod_bool hu hx
   exact ⟨[.bool b],rfl,⟨trivial,trivial,trivial,trivial,fun _ _ h=>h,.bool⟩,trivial⟩
  ·rename_i k hu
   cases h
   obtain ⟨m,rfl,rfl,hw⟩:=DataW.trod_int hu hx
   exact ⟨[.int k m],rfl,⟨trivial,trivial,trivial,trivial,fun _ _ h=>h,.int hw⟩,trivial⟩
  ·rename_i hu
   cases h
   obtain ⟨s,rfl,rfl,hw⟩:=DataW.trod_string hu hx
   exact ⟨[.str s],rfl,⟨trivial,trivial,trivial,hw,fun _ _ h=>h,.str hw⟩,trivial⟩
  ·rename_i e hu
   split at h
   ·rename_i hd
    simp only [Option.bind_eq_some_iff] at h
    obtain ⟨te,h1,h⟩:=h
    split at h
    ·rename_i hl
     obtain ⟨hl,hpos⟩:=hl
     cases h
     rcases DataW.trod_slice hu hx with ⟨rfl,rfl⟩ | ⟨a,len,cap,elems,rest,m,rfl,rfl,rfl,_,hlc,hcm,hel,jv,_,_⟩
     ·refine ⟨[.row .sl te.length none 0 0 fun _ _=>.dead undef],rfl,⟨trivial,trivial,.inr (.inl rfl),⟨Nat.le_refl _,fun i j hi=>by omega,fun i j hi=>by omega,fun h=>(by cases h),fun i j hi=>by omega⟩,fun b k h=>(by cases h.1),?_⟩,trivial⟩
      exact eT.row (xs:=[]) (by simp) (fun r hr=>by cases hr) (fun r hr=>by cases hr)
     ·obtain ⟨g,o,spot⟩:=a
      by_cases hl0 : len = 0
      ·subst hl0
       refine ⟨[.row .sl te.length (some (g,o,spot)) 0 cap fun _ _=>.dead undef],rfl,⟨trivial,trivial,.inr (.inl rfl),⟨hlc,fun i j hi=>by omega,fun i j hi=>by omega,fun h=>(by cases h),fun i j hi=>by omega⟩,fun b k h=>(by cases h.1),?_⟩,trivial⟩
       exact eT.row (xs:=[]) (by simp) (fun r hr=>by cases hr) (fun r hr=>by cases hr)
      have OJ : spot = none:=by
       have:=jv 0 (by omega)
       rw [List.getElem?_eq_getElem (by omega),Option.bind_eq_some_iff] at this
       obtain ⟨vs,e1,e2⟩:=this
       exact Rr hpos e1
      subst OJ
      have hex : ∀ i,∃ (vs : List Value) (l : List C),i < len→w.cells? 0 ((⟨g,o,none⟩ : Addr).add (i * P.cellsOf e)) (P.cellsOf e) = some vs∧gD w te vs l:=fun i=>by
       by_cases hi : i < len
       ·have:=jv i hi
        rw [List.getElem?_eq_getElem (by omega),Option.bind_eq_some_iff] at this
        obtain ⟨vs,e1,e2⟩:=this
        obtain ⟨l,hl⟩:=trod_good n true _ _ h1 _ _ _ e2
        exact ⟨vs,l,fun _=>⟨e1,hl⟩⟩
       ·exact ⟨[],[],fun h=>(hi h).elim⟩
      let vs:=fun i=>(hex i).choose
      let l:=fun i=>(hex i).choose_spec.choose
      have hvl : ∀ i,i < len→w.cells? 0 ((⟨g,o,none⟩ : Addr).add (i * P.cellsOf e)) (P.cellsOf e) = some (vs i)∧gD w te (vs i) (l i):=fun i=>(hex i).choose_spec.choose_spec
      have hij : ∀ i j,i < len→j < te.length→∃ ty,te[j]? = some ty∧(l i)[j]? = some ((l i).getD j (.dead undef))∧w.cell? ⟨g,o + i * te.length + j,none⟩ = some ((l i).getD j (.dead undef)).val∧ux w ty ((l i).getD j (.dead undef)):=fun i j hi hj=>by
       obtain ⟨e1,e2⟩:=hvl i hi
       obtain ⟨ty,c,a1,a2,a3,a4⟩:=zJ e2 hj
       have hc : (l i).getD j (.dead undef) = c:=by rw [List.getD_eq_getElem?_getD,a2]; rfl
       rw [hc]
       obtain ⟨_,_,e3⟩:=World.cells?_some e1
       have e4:=e3 j (by omega)
       rw [a3] at e4
       refine ⟨ty,a1,a2,?_,a4⟩
       rw [← e4]
       congr 1
       rw [hl]
       unfold Addr.add
       split <;> split <;> simp_all
      have hb : ∀ i j,i < len→j < te.length→g < w.heap.size:=fun i j hi hj=>by
       obtain ⟨_,_,_,h3,_⟩:=hij i j hi hj
       exact World.block_lt_of_cell? w _ h3
      refine ⟨[.row .sl te.length (some (g,o,none)) len cap fun i j=>(l i).getD j (.dead undef)],rfl,⟨trivial,trivial,.inr (.inl rfl),⟨hlc,fun i j hi hj=>⟨g,o,rfl,?_,fun _=>hb i j hi hj⟩,fun i j hi hj=>?_,fun h=>(by cases h),fun i j hi hj b k hf=>?_⟩,fun b k h=>(by cases h.1),?_⟩,trivial⟩
      ·obtain ⟨ty,_,_,h3,h4⟩:=hij i j hi hj
       exact h3
      ·obtain ⟨ty,_,_,h3,h4⟩:=hij i j hi hj
       exact ⟨h4.cell,h4.bM,h4.fits,h4.ok⟩
      ·obtain ⟨ty,_,_,h3,h4⟩:=hij i j hi hj
       exact (h4.fp b k hf).elim
      ·refine eT.row (by simpa using Nat.le_trans hlc hcm) (fun r hr=>?_) fun r hr j ty x hty Af=>?_
       ·simp only [List.mem_map,List.mem_range] at hr
        obtain ⟨i,_,rfl⟩:=hr
        simp
       ·simp only [List.mem_map,List.mem_range] at hr
        obtain ⟨i,hi,rfl⟩:=hr
        have hj : j < te.length:=by
         rcases Nat.lt_or_ge j te.length with h | h
         ·exact h
         ·rw [List.getElem?_eq_none h] at hty; cases hty
        obtain ⟨ty',e1,_,_,h4⟩:=hij i j hi hj
        rw [e1] at hty
        cases hty
        rw [List.getElem?_map,List.getElem?_range hj] at Af
        simp only [Option.map_some,Option.some.injEq] at Af
        subst Af
        exact h4.qG
    ·cases h
   ·cases h
  ·rename_i fs hu
   simp only [Option.bind_eq_some_iff] at h
   obtain ⟨te,h1,h⟩:=h
   split at h
   ·rename_i hl
    cases h
    obtain ⟨xs,m,rfl,rfl,hcs,hxl,jv⟩:=DataW.trod_struct hu hx
    obtain ⟨Cs,hC⟩:=Gr (cs:=cs) (fun t ts' fuel cs' x hr ht hm=>trod_good n deep t ts' hr fuel cs' x ht) fs.toList 0 ts h1 fun f hf=>by
     obtain ⟨i,hi,rfl⟩:=List.getElem_of_mem hf
     have hi' : i < fs.size:=by simpa using hi
     have:=jv i (fs[i]) (by simp [hi'])
     rw [List.getElem?_eq_getElem (by omega)] at this
     exact ⟨_,_,by simpa using this⟩
    refine ⟨Cs,?_⟩
    rw [List.drop_zero,hl,← hcs,List.take_length] at hC
    exact hC
   ·cases h
  ·cases h
theorem Cn : ∀ (n : Nat) (deep : Bool) (t : TypeId) (ts : List Ty),fo P n deep t = some ts→∀ (fuel : Nat) (cs : List Value) (x : DataW H×List MemPlace),DataW.trod enc P w 0 (fun _=>true) held fuel t cs = some x→DataW.trod enc P w 0 (fun b=>decide (b < w.heap.size)) held fuel t cs = some x
 | 0,_,_,_,h,_,_,_,_=>by cases h
 | n + 1,deep,t,ts,h,0,cs,x,hx=>by simp [DataW.trod] at hx
 | n + 1,deep,t,ts,h,fuel + 1,cs,x,hx=>by
  simp only [fo] at h
  split at h
  ·rename_i hu
   obtain ⟨b,rfl,rfl⟩:=DataW.trod_bool hu hx
   simp [DataW.trod,hu]
  ·rename_i k hu
   obtain ⟨m,rfl,rfl,hw⟩:=DataW.trod_int hu hx
   simp [DataW.trod,hu,hw]
  ·rename_i hu
   obtain ⟨s,rfl,rfl,hw⟩:=DataW.trod_string hu hx
   simp [DataW.trod,hu,hw]
  ·rename_i e hu
   split at h
   ·simp only [Option.bind_eq_some_iff] at h
    obtain ⟨te,h1,h⟩:=h
    split at h
    ·rename_i hl
     obtain ⟨hl,hpos⟩:=hl
     rcases DataW.trod_slice hu hx with ⟨rfl,rfl⟩ | ⟨a,len,cap,elems',rest',m,_,rfl,_⟩
     ·simp [DataW.trod,hu]
     ·unfold DataW.trod at hx ⊢
      simp only [hu] at hx ⊢
      split at hx
      ·rename_i hc
       rw [if_pos hc]
       simp only [Option.map_eq_some_iff,Option.bind_eq_some_iff,if_true] at hx ⊢
       obtain ⟨elems,he,rest,mO,rfl⟩:=hx
       have one : ∀ (i : Nat) (y : DataW H×List MemPlace),(w.cells? 0 (a.add (i * P.cellsOf e)) (P.cellsOf e)).bind (DataW.trod enc P w 0 (fun _=>true) held fuel e) = some y→(w.cells? 0 (a.add (i * P.cellsOf e)) (P.cellsOf e)).bind (DataW.trod enc P w 0 (fun b=>decide (b < w.heap.size)) held fuel e) = some y:=fun i y hv=>by
        simp only [Option.bind_eq_some_iff] at hv ⊢
        obtain ⟨cs',fQ,hy'⟩:=hv
        exact ⟨cs',fQ,Cn n true _ _ h1 _ _ _ hy'⟩
       refine ⟨elems,mapM_carry he fun i y _ _ hv=>one i y hv,rest,?_,rfl⟩
       by_cases hb : a.block < w.heap.size
       ·rw [if_pos (by simpa using hb)]
        exact mapM_carry mO fun i y _ _ hv=>one (len + i) y hv
       ·rw [if_neg (by simpa using hb)]
        have : cap - len = 0:=by
         rcases Nat.eq_zero_or_pos (cap - len) with h | h
         ·exact h
         ·have h0:=mapM_some_get mO 0 0 (by simp [h])
          have hl' : 0 < rest.length:=by have:=mapM_some_length mO; simp at this; omega
          rw [List.getElem?_eq_getElem hl',Option.bind_eq_some_iff] at h0
          obtain ⟨vs,e1,_⟩:=h0
          have:=World.cells?_block e1 hpos
          refine (hb ?_).elim
          unfold Addr.add at this
          split at this <;> exact this
        rw [this] at mO
        exact mO
      ·cases hx
    ·cases h
   ·cases h
  ·rename_i fs hu
   simp only [Option.bind_eq_some_iff] at h
   obtain ⟨te,h1,h⟩:=h
   unfold DataW.trod at hx ⊢
   simp only [hu] at hx ⊢
   have each : ∀ (o : Nat) (l : List Field) (ts : List Ty),qk P (fo P n deep) o l = some ts→∀ f∈l,∃ t1,fo P n deep f.type = some t1:=by
    intro o l
    induction l generalizing o with
    | nil=>intro _ _ f hf; cases hf
    | cons f l ih =>
     intro ts h f' hf'
     simp only [qk] at h
     split at h
     ·simp only [Option.bind_eq_some_iff] at h
      obtain ⟨t1,e1,h⟩:=h
      split at h
      ·simp only [Option.map_eq_some_iff] at h
       obtain ⟨t2,e2,_⟩:=h
       rcases List.mem_cons.1 hf' with rfl | hf'
       ·exact ⟨t1,e1⟩
       ·exact ih _ _ e2 f' hf'
      ·cases h
     ·cases h
   split at hx
   ·rename_i hc
    rw [if_pos hc]
    simp only [Option.map_eq_some_iff] at hx ⊢
    obtain ⟨xs,hx,rfl⟩:=hx
    refine ⟨xs,mapM_carry hx fun f y hf _ hv=>?_,rfl⟩
    obtain ⟨t1,e1⟩:=each _ _ _ h1 f hf
    exact Cn n deep _ _ e1 _ _ _ hv
   ·cases hx
  ·cases h
inductive iE where
 | one (ty : Ty)
 | agg (tys : List Ty)
inductive kP : iE→X→Prop
 | one {ty x} : eT ty x→kP (.one ty) x
 | agg {tys : List Ty} {l : List X} : l.length = tys.length→(∀ (j : Nat) ty x,tys[j]? = some ty→l[j]? = some x→eT ty x)→kP (.agg tys) (.agg l)
def mo (P : Program) (t : TypeId) : Option iE:=match P.underlying t with
 | some (.struct _)=>(fo P 20 true t).map .agg
 | some .bool=>some (.one .bool)
 | some (.int k)=>some (.one (.int k))
 | some .string=>some (.one .str)
 | some (.slice _)=>(fo P 20 true t).bind fun
  | [ty]=>some (.one ty)
  | _=>none
 | _=>none
theorem CO {c : C} (h1 : c.cell) (h2 : c.bM) : c.bare:=by
 cases c <;> first | trivial | exact h2.elim
structure CD (w : World) (a : iE) (v : Value) (c : C) : Prop where
 val : c.val = v
 ok : c.ok w (Zf (fun b _=>b < w.heap.size) fun _ _=>False)
 bare : c.bare
 fp : ∀ b k,¬ c.fp b k
 qG : kP a c.er
theorem vb {ty : Ty} {cs : List Value} {Cs : List C} {v : Value} (h : gD w [ty] cs Cs) (e : cs = [v]) : ∃ c,CD w (.one ty) v c:=by
 subst e
 match Cs,h with
 | [c],⟨h1,h2,_⟩=>exact ⟨c,h1,h2.ok,CO h2.cell h2.bM,h2.fp,.one h2.qG⟩
theorem Iy {r : Reach} {base : Nat} {t : TypeId} {v : Value} {d : DataW H} {p : List MemPlace} {a : iE} (ha : mo P t = some a) (hv : Value.okWide P w r base t v) (hd : DataW.Trod enc P w 0 sp held t v d p) : ∃ c,CD w a v c:=by
 obtain ⟨fuel,hf⟩:=hd
 unfold mo at ha
 split at ha
 ·rename_i fs hu
  simp only [Option.map_eq_some_iff] at ha
  obtain ⟨ts,ht,rfl⟩:=ha
  unfold Value.okWide at hv
  rw [hu] at hv
  obtain ⟨cs,rfl,_,ts',_,_,hcell⟩:=hv
  obtain ⟨Cs,hC⟩:=trod_good _ _ _ _ ht _ _ _ hf
  obtain ⟨l1,l2,l3⟩:=En hC
  have jv : ∀ j,j < Cs.length→∃ ty,ts[j]? = some ty∧ux w ty (Cs.getD j (.dead undef)):=fun j hj=>by
   obtain ⟨ty,c,a1,a2,a3,a4⟩:=zJ hC (j:=j) (by omega)
   exact ⟨ty,a1,by rw [List.getD_eq_getElem?_getD,a2]; exact a4⟩
  refine ⟨.agg Cs.length fun j=>Cs.getD j (.dead undef),?_,⟨fun j hj=>?_,fun j hj b k hf=>?_⟩,fun j hj=>?_,fun b k ⟨j,hj,hf⟩=>?_,?_⟩
  ·show Value.agg _ = _
   congr 1
   apply Array.ext'
   show (List.range Cs.length).map (fun j=>(Cs.getD j (.dead undef)).val) = cs.toList
   have : (Value.agg cs).cells.toList = cs.toList:=rfl
   rw [← this,l3]
   letI : Bs:=⟨w⟩
   exact iw Cs _ C.val
  ·obtain ⟨_,_,h⟩:=jv j hj; exact ⟨h.cell,h.ok⟩
  ·obtain ⟨_,_,h⟩:=jv j hj; exact (h.fp b k hf).elim
  ·obtain ⟨_,_,h⟩:=jv j hj; exact CO h.cell h.bM
  ·obtain ⟨_,_,h⟩:=jv j hj; exact h.fp b k hf
  ·refine kP.agg (by simpa using l2) fun j ty x hty hx=>?_
   have hj : j < Cs.length:=by
    rcases Nat.lt_or_ge j Cs.length with h | h
    ·exact h
    ·rw [List.getElem?_eq_none (by simpa using h)] at hx; cases hx
   obtain ⟨ty',e1,h⟩:=jv j hj
   rw [e1] at hty
   cases hty
   rw [List.getElem?_map,List.getElem?_range hj] at hx
   simp only [Option.map_some,Option.some.injEq] at hx
   subst hx
   exact h.qG
 ·rename_i hu
  cases ha
  obtain ⟨Cs,hC⟩:=trod_good 1 true t [.bool] (by simp [fo,hu]) _ _ _ hf
  obtain ⟨b,hb,_⟩:=DataW.trod_bool hu hf
  exact vb hC (v:=v) (by
   unfold Value.okWide at hv; rw [hu] at hv
   unfold Cell.okWide at hv; rw [hu] at hv; unfold Cell.ok at hv; rw [hu] at hv
   cases v <;> first | rfl | (simp at hv; done))
 ·rename_i k hu
  cases ha
  obtain ⟨m,hb,_⟩:=DataW.trod_int hu hf
  obtain ⟨Cs,hC⟩:=trod_good 1 true t [.int k] (by simp [fo,hu]) _ _ _ hf
  exact vb hC (v:=v) (by
   unfold Value.okWide at hv; rw [hu] at hv
   unfold Cell.okWide at hv; rw [hu] at hv; unfold Cell.ok at hv; rw [hu] at hv
   cases v <;> first | rfl | (simp at hv; done))
 ·rename_i hu
  cases ha
  obtain ⟨m,hb,_⟩:=DataW.trod_string hu hf
  obtain ⟨Cs,hC⟩:=trod_good 1 true t [.str] (by simp [fo,hu]) _ _ _ hf
  exact vb hC (v:=v) (by
   unfold Value.okWide at hv; rw [hu] at hv
   unfold Cell.okWide at hv; rw [hu] at hv; unfold Cell.ok at hv; rw [hu] at hv
   cases v <;> first | rfl | (simp at hv; done))
 ·rename_i e hu
  simp only [Option.bind_eq_some_iff] at ha
  obtain ⟨ts,ht,ha⟩:=ha
  split at ha
  ·rename_i ty
   cases ha
   have hc : Cell.okWide P w r base t v:=by unfold Value.okWide at hv; rw [hu] at hv; exact hv
   have hv1 : v.cells.toList = [v]:=by
    unfold Cell.okWide at hc; rw [hu] at hc; unfold Cell.ok at hc; rw [hu] at hc
    cases v <;> first | rfl | (simp at hc; done)
   obtain ⟨Cs,hC⟩:=trod_good _ _ _ _ ht _ _ _ hf
   exact vb hC hv1
  ·cases ha
 ·cases ha
def nV : List iE→List X→Prop
 | [],[]=>True
 | a :: as,x :: xs=>kP a x∧nV as xs
 | _,_=>False
theorem CL {r : Reach} {base : Nat} : ∀ {ts : List TypeId} {as : List iE} {vs : List Value} {ds : List (DataW H)} {p : List MemPlace},ts.map (mo P) = as.map some →
  (∀ (j : Nat) t v,ts[j]? = some t→vs[j]? = some v→Value.okWide P w r base t v)→DataW.TrodAll enc P w 0 sp held ts vs ds p →
  ∃ cs : List C,cs.map C.val = vs∧(∀ c∈cs,c.ok w (Zf (fun b _=>b < w.heap.size) fun _ _=>False)∧c.bare∧∀ b k,¬ c.fp b k)∧nV as (cs.map C.er)
 | [],[],[],[],_,_,_,_=>⟨[],rfl,fun _ h=>(by cases h),trivial⟩
 | t :: ts,a :: as,v :: vs,d :: ds,_,ha,hv,⟨p,q,h1,h2,_⟩=>by
  simp only [List.map_cons,List.cons.injEq] at ha
  obtain ⟨c,hc⟩:=Iy ha.1 (hv 0 t v rfl rfl) h1
  obtain ⟨cs,e1,e2,e3⟩:=CL ha.2 (fun j t' v' ht cU=>hv (j + 1) t' v' (by simpa using ht) (by simpa using cU)) h2
  refine ⟨c :: cs,by simp [hc.val,e1],fun x hx=>?_,⟨hc.qG,e3⟩⟩
  rcases List.mem_cons.1 hx with rfl | hx
  ·exact ⟨hc.ok,hc.bare,hc.fp⟩
  ·exact e2 x hx
theorem UW {r : Reach} {base : Nat} {ts : List TypeId} {as : List iE} {vs : List Value} {ds : List (DataW H)} {p : List MemPlace} {f : FuncId} (ha : ts.map (mo P) = as.map some)
  (hv : ∀ (j : Nat) t v,ts[j]? = some t→vs[j]? = some v→Value.okWide P w r base t v) (hd : DataW.TrodAll enc P w 0 sp held ts vs ds p)
  (NN : ∀ xs,nV as xs→@AC ⟨w⟩ P f xs fun r _=>r = .bool true) : Calls P f vs.toArray w fun e w'=>e = .returned (.bool true)∧Below w.heap.size w w':=by
 obtain ⟨cs,rfl,hcs,hc⟩:=CL ha hv hd
 refine (NN _ hc w (fun b _=>b < w.heap.size) (fun _ _=>False) cs rfl ⟨fun x hx=>(hcs x hx).1,fun x hx=>(hcs x hx).2.1,fun x hx b k hf=>((hcs x hx).2.2 b k hf).elim,fun b k h=>h.elim id False.elim,?_⟩ fun b hb=>⟨rfl,fun k=>.inl hb⟩).mono fun e w' ⟨r,ps,aA,hD,hr⟩=>?_
 ·refine List.pairwise_iff_getElem.2 fun i j hi hj _ b k hf=>((hcs _ (List.getElem_mem hi)).2.2 b k hf).elim
 ·letI : Bs:=⟨w⟩
  have hr':=lq hr
  subst hr'
  exact ⟨hD.ends,(hD.ext.mono (S':=fun _ _=>False) fun b k ⟨x,hx,hf⟩ _=>(hcs x hx).2.2 b k hf).below⟩
theorem Iw {t : TypeId} {a : iE} (h : mo P t = some a) : ∃ n deep ts,fo P n deep t = some ts:=by
 unfold mo at h
 split at h
 ·simp only [Option.map_eq_some_iff] at h
  obtain ⟨ts,ht,_⟩:=h
  exact ⟨_,_,ts,ht⟩
 ·rename_i hu; exact ⟨1,true,[.bool],by simp [fo,hu]⟩
 ·rename_i k hu; exact ⟨1,true,[.int k],by simp [fo,hu]⟩
 ·rename_i hu; exact ⟨1,true,[.str],by simp [fo,hu]⟩
 ·simp only [Option.bind_eq_some_iff] at h
  obtain ⟨ts,ht,_⟩:=h
  exact ⟨_,_,ts,ht⟩
 ·cases h
theorem Uf {w' : World} (hb : Below w.heap.size w w') : ∀ {ts : List TypeId} {as : List iE} {vs : List Value} {ds : List (DataW H)} {p : List MemPlace},ts.map (mo P) = as.map some →
  DataW.TrodAll enc P w 0 (fun _=>true) held ts vs ds p→DataW.TrodAll enc P w' 0 (fun b=>decide (b < w.heap.size)) held ts vs ds p
 | [],[],[],[],_,_,h=>h
 | t :: ts,a :: as,v :: vs,d :: ds,_,ha,⟨p,q,⟨fuel,h1⟩,h2,e⟩=>by
  simp only [List.map_cons,List.cons.injEq] at ha
  obtain ⟨n,deep,tt,ht⟩:=Iw ha.1
  have h3:=Cn n deep t tt ht _ _ _ h1
  exact ⟨p,q,⟨fuel,DataW.trod_carry _ _ _ _ h3 fun m hm=>hb.same (DataW.trod_lt _ _ _ _ h3 m hm)⟩,Uf hb ha.2 h2,e⟩
end
end M
namespace M
open Go
def cu (ts : List Ty) (r : List X) : Prop:=r.length = ts.length∧∀ (j : Nat) ty x,ts[j]? = some ty→r[j]? = some x→eT ty x
theorem cu.nil {r : List X} (h : cu [] r) : r = []:=List.length_eq_zero_iff.1 h.1
theorem cu.cons {ty : Ty} {ts : List Ty} {r : List X} (h : cu (ty :: ts) r) : ∃ x r',r = x :: r'∧eT ty x∧cu ts r':=by
 obtain ⟨h1,h2⟩:=h
 cases r with
 | nil=>cases h1
 | cons x r=>exact ⟨x,r,rfl,h2 0 ty x rfl rfl,by simpa using h1,fun j ty x ht hx=>h2 (j + 1) ty x (by simpa using ht) (by simpa using hx)⟩
theorem gY {x : X} (h : eT .str x) : ∃ s : ah,x = .str ⟨s.toArray⟩∧s.length≤9223372036854775807:=by
 cases h with
 | str h=>rename_i s; exact ⟨s.data.toList,by simp,by rw [Array.length_toList]; exact h⟩
theorem KE {x : X} (h : eT .bool x) : ∃ b,x = .bool b:=by cases h; exact ⟨_,rfl⟩
theorem IC {n : Int} (h : (Lit.int .i64 n).wf = true) : -9223372036854775808≤n∧n≤9223372036854775807:=by
 have h' : (decide (IntKind.i64.min≤n) && decide (n≤IntKind.i64.max)) = true:=h
 rw [Bool.and_eq_true,decide_eq_true_eq,decide_eq_true_eq] at h'
 exact h'
theorem eX {x : X} (h : eT (.int .i64) x) : ∃ n : Int,x = .int .i64 n∧-9223372036854775808≤n∧n≤9223372036854775807:=by
 cases h with
 | int h =>
  rename_i n
  refine ⟨n,rfl,?_⟩
  exact IC h
theorem Fh {α : Type} {e : α→List X} {ok : α→Prop} : ∀ {xs : List (List X)},(∀ r∈xs,∃ a,r = e a∧ok a)→∃ l : List α,xs = l.map e∧∀ a∈l,ok a
 | [],_=>⟨[],rfl,fun _ h=>by cases h⟩
 | r :: xs,h=>by
  obtain ⟨a,e1,e2⟩:=h r (List.mem_cons_self ..)
  obtain ⟨l,e3,e4⟩:=Fh (fun r hr=>h r (List.mem_cons_of_mem _ hr))
  refine ⟨a :: l,by simp [e1,e3],fun b hb=>?_⟩
  rcases List.mem_cons.1 hb with rfl | hb
  ·exact e2
  ·exact e4 b hb
theorem gX {α : Type} (e : α→List X) (ok : α→Prop) {ts : List Ty} {x : X} (h : eT (.row ts) x) (hr : ∀ r,cu ts r→∃ a,r = e a∧ok a) : ∃ l : List α,x = .row .sl ts.length (l.map e)∧l.length≤9223372036854775807∧∀ a∈l,ok a:=by
 cases h with
 | row h1 h2 h3 =>
  rename_i xs
  obtain ⟨l,rfl,hl⟩:=Fh (e:=e) (ok:=ok) (xs:=xs) fun r hr'=>hr r ⟨h2 r hr',h3 r hr'⟩
  rw [List.length_map] at h1
  exact ⟨l,rfl,h1,hl⟩
theorem Kt {tys : List Ty} {x : X} (h : kP (.agg tys) x) : ∃ l,x = .agg l∧cu tys l:=by
 cases h with
 | agg h1 h2=>exact ⟨_,rfl,h1,h2⟩
theorem Vs {a : iE} {as : List iE} {xs : List X} (h : nV (a :: as) xs) : ∃ x xs',xs = x :: xs'∧kP a x∧nV as xs':=by
 match xs,h with
 | x :: xs',⟨h1,h2⟩=>exact ⟨x,xs',rfl,h1,h2⟩
theorem Vt {xs : List X} (h : nV [] xs) : xs = []:=by
 match xs,h with
 | [],_=>rfl
structure Uu (d : eu) : Prop where
 hb : d.cells.length≤9223372036854775807
 hs : ∀ s∈d.cells,s.length≤9223372036854775807
 hb' : d.pending.length≤9223372036854775807
 hs' : ∀ s∈d.pending,s.text.length≤9223372036854775807
 hi : ∀ s∈d.pending,-9223372036854775808≤s.at_∧s.at_≤9223372036854775807
end M
namespace M
open Go
end M
namespace M
open Go
theorem Ug (m : Nat) (h : m < 256) : mb [[.int .u8 (m : Int)]] = some [UInt8.ofNat m]:=by
 have:=Gt [UInt8.ofNat m]
 have e : ((UInt8.ofNat m).toNat : Int) = m:=by
  rw [UInt8.toNat_ofNat']
  omega
 simp only [List.map_cons,List.map_nil,e] at this
 exact this
theorem GH {n : Int} (h1 : 0≤n) (h2 : n < 256) : IntKind.u8.wrap n = n:=by
 simp only [IntKind.wrap,IntKind.signed,IntKind.bits,Bool.false_and,Bool.false_eq_true,if_false]
 omega
def cI (n : Nat) : ah:=Lib.decDigits n
theorem Pp : ∀ (n : Nat) (out : ah),n≠0→nw n out = cI n ++ out:=by
 intro n
 induction n using Nat.strongRecOn with
 | ind n ih =>
  intro out h
  unfold nw cI
  rw [dif_neg h,Lib.decDigits]
  by_cases h1 : n < 10
  ·have e : n / 10 = 0:=by omega
   have e2 : n % 10 = n:=by omega
   rw [dif_pos h1,e,e2]
   unfold nw
   rw [dif_pos rfl]
   rfl
  ·rw [dif_neg h1,ih (n / 10) (by omega) _ (by omega)]
   unfold cI
   rw [List.append_assoc]
   rfl
theorem KV : cI 0 = [48]:=by unfold cI; rw [Lib.decDigits]; rfl
theorem KT (k : Nat) : ∀ (n : Nat),n < 10 ^ (k + 1)→(cI n).length≤k + 1:=by
 induction k with
 | zero =>
  intro n h
  unfold cI
  rw [Lib.decDigits,dif_pos (by simpa using h)]
  simp
 | succ k ih =>
  intro n h
  unfold cI
  rw [Lib.decDigits]
  by_cases h1 : n < 10
  ·rw [dif_pos h1]; simp
  ·rw [dif_neg h1,List.length_append]
   have:=ih (n / 10) (by rw [Nat.pow_succ] at h; omega)
   unfold cI at this
   simp only [List.length_cons,List.length_nil]
   omega
theorem E6 (n : Nat) : Lib.itoa (n : Int) = cI n:=by
 unfold Lib.itoa cI
 rw [if_neg (by omega)]
 rfl
end M
namespace M
open Go
def wS (s : ah) : Nat:=s.length
def wO {α : Type} (_ : α) : Nat:=0
def wL {α : Type} (w : α→Nat) (l : List α) : Nat:=l.length + (l.map w).sum
theorem dF {α : Type} {w : α→Nat} : ∀ {l : List α} {a : α},a∈l→w a≤wL w l
 | b :: l,a,h=>by
  rcases List.mem_cons.1 h with rfl | h
  ·simp [wL]; omega
  ·have:=dF (w:=w) h
   simp [wL] at this ⊢; omega
theorem bt {α : Type} {w : α→Nat} (l : List α) : l.length≤wL w l:=by unfold wL; omega
def av (n : Int) (w : Nat) : Int:=if (w : Int)≤n then n - w else -1
theorem aU (n : Int) (w : Nat) : ((w : Int)≤n∧av n w = n - w)∨(n < (w : Int)∧av n w = -1):=by
 unfold av
 split
 ·exact .inl ⟨by assumption,rfl⟩
 ·exact .inr ⟨by omega,rfl⟩
theorem l7 (w : Nat) (n : Int) : av n w≤n∨av n w < 0:=by have:=aU n w; omega
theorem kM {α : Type} (w : α→Nat) : ∀ (l : List α) (n : Int),0≤n→cO (fun b n=>av n (w b)) l n = av n (l.map w).sum
 | [],n,h=>by simp [cO,av,h]
 | b :: l,n,h=>by
  simp only [cO,List.map_cons,List.sum_cons]
  rcases aU n (w b) with ⟨h1,h2⟩ | ⟨h1,h2⟩
  ·rw [if_neg (by omega),kM w l _ (by omega),h2]
   rcases aU (n - w b) (l.map w).sum with ⟨h3,h4⟩ | ⟨h3,h4⟩ <;> rcases aU n (w b + (l.map w).sum) with ⟨h5,h6⟩ | ⟨h5,h6⟩ <;> omega
  ·rw [if_pos (by omega)]
   rcases aU n (w b + (l.map w).sum) with ⟨h5,h6⟩ | ⟨h5,h6⟩ <;> omega
def bI (n : Int) : Prop:=-9223372036854775808≤n∧n≤9223372036854775807
def bS (s : ah) : Prop:=s.length≤9223372036854775807
def bB (_ : Bool) : Prop:=True
def bL {α : Type} (b : α→Prop) (l : List α) : Prop:=l.length≤9223372036854775807∧∀ a∈l,b a
@[simp] def eI (n : Int) : List X:=[.int .i64 n]
@[simp] theorem WM (m : Md) (l : List Int) : X.bk m (l.map eI) = l.map eI:=by induction l <;> simp_all [X.bk,X.cG,X.md]
@[simp] theorem U6 (l : List Int) : X.clean.aQ (l.map eI) = true:=by induction l <;> simp_all [X.clean.aQ,X.clean.bD,X.clean]
structure aK where
 name : ah
 value : ah
 deriving DecidableEq
@[simp] def aG (a : aK) : List X:=[.str ⟨(a.name).toArray⟩,.str ⟨(a.value).toArray⟩]
@[simp] theorem WL (m : Md) (l : List aK) : X.bk m (l.map aG) = l.map aG:=by induction l <;> simp_all [X.bk,X.cG,X.md]
@[simp] theorem U5 (l : List aK) : X.clean.aQ (l.map aG) = true:=by induction l <;> simp_all [X.clean.aQ,X.clean.bD,X.clean]
def aJ (a : aK) : Nat:=a.name.length + a.value.length
structure kY (x : aK) : Prop where
 O0 : bS x.name
 Pa : bS x.value
theorem KK (a b : aK) : decide (a = b) = (decide (a.name = b.name) && decide (a.value = b.value)):=by
 cases a; cases b; simp [Bool.and_assoc]
structure dh where
 status : Int
 fields : List aK
 body : ah
 deriving DecidableEq
@[simp] def gZ (m : Md) (a : dh) : List X:=[.int .i64 a.status,.row m 2 ((a.fields).map aG),.str ⟨(a.body).toArray⟩]
@[simp] theorem WS (m m' : Md) (l : List dh) : X.bk m (l.map (gZ m')) = l.map (gZ m):=by induction l <;> simp_all [X.bk,X.cG,X.md]
@[simp] theorem Vb (l : List dh) : X.clean.aQ (l.map (gZ .own)) = true:=by induction l <;> simp_all [X.clean.aQ,X.clean.bD,X.clean]
@[simp] theorem Vo (l : List dh) : X.clean.aQ (l.map (gZ .sl)) = true:=by induction l <;> simp_all [X.clean.aQ,X.clean.bD,X.clean]
def bY (a : dh) : Nat:=wL aJ a.fields + a.body.length
structure n7 (x : dh) : Prop where
 Wv : bI x.status
 AL : (bL kY) x.fields
 AK : bS x.body
theorem KP (a b : dh) : decide (a = b) = (decide (a.status = b.status) && decide (a.fields = b.fields) && decide (a.body = b.body)):=by
 cases a; cases b; simp [Bool.and_assoc]
structure Rq where
 method : Int
 path : ah
 fields : List aK
 body : ah
 deriving DecidableEq
@[simp] def eY (m : Md) (a : Rq) : List X:=[.int .i64 a.method,.str ⟨(a.path).toArray⟩,.row m 2 ((a.fields).map aG),.str ⟨(a.body).toArray⟩]
@[simp] theorem WR (m m' : Md) (l : List Rq) : X.bk m (l.map (eY m')) = l.map (eY m):=by induction l <;> simp_all [X.bk,X.cG,X.md]
@[simp] theorem Va (l : List Rq) : X.clean.aQ (l.map (eY .own)) = true:=by induction l <;> simp_all [X.clean.aQ,X.clean.bD,X.clean]
@[simp] theorem Vn (l : List Rq) : X.clean.aQ (l.map (eY .sl)) = true:=by induction l <;> simp_all [X.clean.aQ,X.clean.bD,X.clean]
def bA (a : Rq) : Nat:=a.path.length + wL aJ a.fields + a.body.length
structure n6 (x : Rq) : Prop where
 Ws : bI x.method
 AN : bS x.path
 AL : (bL kY) x.fields
 AK : bS x.body
theorem KO (a b : Rq) : decide (a = b) = (decide (a.method = b.method) && decide (a.path = b.path) && decide (a.fields = b.fields) && decide (a.body = b.body)):=by
 cases a; cases b; simp [Bool.and_assoc]
structure Ob where
 path : ah
 names : List ah
 values : List ah
 resp : dh
 t : Int
 deriving DecidableEq
@[simp] def eE (m : Md) (a : Ob) : List X:=[.str ⟨(a.path).toArray⟩,.row m 1 ((a.names).map eS),.row m 1 ((a.values).map eS),.int .i64 a.resp.status,.row m 2 ((a.resp.fields).map aG),.str ⟨(a.resp.body).toArray⟩,.int .i64 a.t]
@[simp] theorem WO (m m' : Md) (l : List Ob) : X.bk m (l.map (eE m')) = l.map (eE m):=by induction l <;> simp_all [X.bk,X.cG,X.md]
@[simp] theorem U8 (l : List Ob) : X.clean.aQ (l.map (eE .own)) = true:=by induction l <;> simp_all [X.clean.aQ,X.clean.bD,X.clean]
@[simp] theorem Vl (l : List Ob) : X.clean.aQ (l.map (eE .sl)) = true:=by induction l <;> simp_all [X.clean.aQ,X.clean.bD,X.clean]
def bT (a : Ob) : Nat:=a.path.length + wL wS a.names + wL wS a.values + bY a.resp
structure qB (x : Ob) : Prop where
 AN : bS x.path
 O1 : (bL bS) x.names
 Pb : (bL bS) x.values
 oO : n7 x.resp
 AO : bI x.t
theorem KM (a b : Ob) : decide (a = b) = (decide (a.path = b.path) && decide (a.names = b.names) && decide (a.values = b.values) && decide (a.resp = b.resp) && decide (a.t = b.t)):=by
 cases a; cases b; simp [Bool.and_assoc]
structure Kp where
 obj : Ob
 at_ : Int
 seq : Int
 deriving DecidableEq
@[simp] def aY (m : Md) (a : Kp) : List X:=[.str ⟨(a.obj.path).toArray⟩,.row m 1 ((a.obj.names).map eS),.row m 1 ((a.obj.values).map eS),.int .i64 a.obj.resp.status,.row m 2 ((a.obj.resp.fields).map aG),.str ⟨(a.obj.resp.body).toArray⟩,.int .i64 a.obj.t,.int .i64 a.at_,.int .i64 a.seq]
@[simp] theorem WN (m m' : Md) (l : List Kp) : X.bk m (l.map (aY m')) = l.map (aY m):=by induction l <;> simp_all [X.bk,X.cG,X.md]
@[simp] theorem U7 (l : List Kp) : X.clean.aQ (l.map (aY .own)) = true:=by induction l <;> simp_all [X.clean.aQ,X.clean.bD,X.clean]
@[simp] theorem Vk (l : List Kp) : X.clean.aQ (l.map (aY .sl)) = true:=by induction l <;> simp_all [X.clean.aQ,X.clean.bD,X.clean]
def bx (a : Kp) : Nat:=bT a.obj
structure n4 (x : Kp) : Prop where
 AM : qB x.obj
 OU : bI x.at_
 O7 : bI x.seq
theorem KL (a b : Kp) : decide (a = b) = (decide (a.obj = b.obj) && decide (a.at_ = b.at_) && decide (a.seq = b.seq)):=by
 cases a; cases b; simp [Bool.and_assoc]
def bV (a : Wr) : Nat:=a.text.length
structure n9 (x : Wr) : Prop where
 OU : bI x.at_
 O9 : bS x.text
theorem KS (a b : Wr) : decide (a = b) = (decide (a.at_ = b.at_) && decide (a.text = b.text)):=by
 cases a; cases b; simp [Bool.and_assoc]
def cP (a : eu) : Nat:=wL wS a.cells + wL bV a.pending
structure yo (x : eu) : Prop where
 OW : (bL bS) x.cells
 O4 : (bL n9) x.pending
theorem KI (a b : eu) : decide (a = b) = (decide (a.cells = b.cells) && decide (a.pending = b.pending)):=by
 cases a; cases b; simp [Bool.and_assoc]
structure Bn where
 kind : Int
 a : ah
 b : ah
 t : Int
 deriving DecidableEq
@[simp] def bQ (a : Bn) : List X:=[.int .i64 a.kind,.str ⟨(a.a).toArray⟩,.str ⟨(a.b).toArray⟩,.int .i64 a.t]
@[simp] theorem WH (m : Md) (l : List Bn) : X.bk m (l.map bQ) = l.map bQ:=by induction l <;> simp_all [X.bk,X.cG,X.md]
@[simp] theorem U1 (l : List Bn) : X.clean.aQ (l.map bQ) = true:=by induction l <;> simp_all [X.clean.aQ,X.clean.bD,X.clean]
def bl (a : Bn) : Nat:=a.a.length + a.b.length
structure mw (x : Bn) : Prop where
 Fa : bI x.kind
 E8 : bS x.a
 OV : bS x.b
 AO : bI x.t
theorem KG (a b : Bn) : decide (a = b) = (decide (a.kind = b.kind) && decide (a.a = b.a) && decide (a.b = b.b) && decide (a.t = b.t)):=by
 cases a; cases b; simp [Bool.and_assoc]
structure Sh where
 bz : eu
 aC : List Kp
 aX : List Bn
 next : Int
 seq : Int
 deriving DecidableEq
@[simp] def bX (m : Md) (a : Sh) : List X:=[.row m 1 ((a.bz.cells).map eS),.row m 2 ((a.bz.pending).map eW),.row m 9 ((a.aC).map (aY m)),.row m 4 ((a.aX).map bQ),.int .i64 a.next,.int .i64 a.seq]
@[simp] theorem WV (m m' : Md) (l : List Sh) : X.bk m (l.map (bX m')) = l.map (bX m):=by induction l <;> simp_all [X.bk,X.cG,X.md]
@[simp] theorem Ve (l : List Sh) : X.clean.aQ (l.map (bX .own)) = true:=by induction l <;> simp_all [X.clean.aQ,X.clean.bD,X.clean]
@[simp] theorem Vq (l : List Sh) : X.clean.aQ (l.map (bX .sl)) = true:=by induction l <;> simp_all [X.clean.aQ,X.clean.bD,X.clean]
def b8 (a : Sh) : Nat:=cP a.bz + wL bx a.aC + wL bl a.aX
structure yp (x : Sh) : Prop where
 OY : yo x.bz
 O2 : (bL n4) x.aC
 E9 : (bL mw) x.aX
 Wt : bI x.next
 O7 : bI x.seq
theorem KR (a b : Sh) : decide (a = b) = (decide (a.bz = b.bz) && decide (a.aC = b.aC) && decide (a.aX = b.aX) && decide (a.next = b.next) && decide (a.seq = b.seq)):=by
 cases a; cases b; simp [Bool.and_assoc]
structure Fl where
 q : Rq
 who : List Int
 old : Ob
 ju : Bool
 deriving DecidableEq
@[simp] def aP (m : Md) (a : Fl) : List X:=[.int .i64 a.q.method,.str ⟨(a.q.path).toArray⟩,.row m 2 ((a.q.fields).map aG),.str ⟨(a.q.body).toArray⟩,.row m 1 ((a.who).map eI),.str ⟨(a.old.path).toArray⟩,.row m 1 ((a.old.names).map eS),.row m 1 ((a.old.values).map eS),.int .i64 a.old.resp.status,.row m 2 ((a.old.resp.fields).map aG),.str ⟨(a.old.resp.body).toArray⟩,.int .i64 a.old.t,.bool a.ju]
@[simp] theorem WK (m m' : Md) (l : List Fl) : X.bk m (l.map (aP m')) = l.map (aP m):=by induction l <;> simp_all [X.bk,X.cG,X.md]
@[simp] theorem U4 (l : List Fl) : X.clean.aQ (l.map (aP .own)) = true:=by induction l <;> simp_all [X.clean.aQ,X.clean.bD,X.clean]
@[simp] theorem Vj (l : List Fl) : X.clean.aQ (l.map (aP .sl)) = true:=by induction l <;> simp_all [X.clean.aQ,X.clean.bD,X.clean]
def bg (a : Fl) : Nat:=bA a.q + wL wO a.who + bT a.old
structure nZ (x : Fl) : Prop where
 oN : n6 x.q
 Pc : (bL bI) x.who
 O3 : qB x.old
 Wp : bB x.ju
theorem KJ (a b : Fl) : decide (a = b) = (decide (a.q = b.q) && decide (a.who = b.who) && decide (a.old = b.old) && decide (a.ju = b.ju)):=by
 cases a; cases b; simp [Bool.and_assoc]
structure Se where
 q : Rq
 resp : dh
 t : Int
 deriving DecidableEq
@[simp] def cx (m : Md) (a : Se) : List X:=[.int .i64 a.q.method,.str ⟨(a.q.path).toArray⟩,.row m 2 ((a.q.fields).map aG),.str ⟨(a.q.body).toArray⟩,.int .i64 a.resp.status,.row m 2 ((a.resp.fields).map aG),.str ⟨(a.resp.body).toArray⟩,.int .i64 a.t]
@[simp] theorem WU (m m' : Md) (l : List Se) : X.bk m (l.map (cx m')) = l.map (cx m):=by induction l <;> simp_all [X.bk,X.cG,X.md]
@[simp] theorem Vd (l : List Se) : X.clean.aQ (l.map (cx .own)) = true:=by induction l <;> simp_all [X.clean.aQ,X.clean.bD,X.clean]
@[simp] theorem Vp (l : List Se) : X.clean.aQ (l.map (cx .sl)) = true:=by induction l <;> simp_all [X.clean.aQ,X.clean.bD,X.clean]
def bZ (a : Se) : Nat:=bA a.q + bY a.resp
structure n8 (x : Se) : Prop where
 oN : n6 x.q
 oO : n7 x.resp
 AO : bI x.t
theorem KQ (a b : Se) : decide (a = b) = (decide (a.q = b.q) && decide (a.resp = b.resp) && decide (a.t = b.t)):=by
 cases a; cases b; simp [Bool.and_assoc]
structure Rp where
 client : Int
 q : Rq
 resp : dh
 kind : Int
 t : Int
 obj : Ob
 aX : Int
 deriving DecidableEq
@[simp] def bW (m : Md) (a : Rp) : List X:=[.int .i64 a.client,.int .i64 a.q.method,.str ⟨(a.q.path).toArray⟩,.row m 2 ((a.q.fields).map aG),.str ⟨(a.q.body).toArray⟩,.int .i64 a.resp.status,.row m 2 ((a.resp.fields).map aG),.str ⟨(a.resp.body).toArray⟩,.int .i64 a.kind,.int .i64 a.t,.str ⟨(a.obj.path).toArray⟩,.row m 1 ((a.obj.names).map eS),.row m 1 ((a.obj.values).map eS),.int .i64 a.obj.resp.status,.row m 2 ((a.obj.resp.fields).map aG),.str ⟨(a.obj.resp.body).toArray⟩,.int .i64 a.obj.t,.int .i64 a.aX]
@[simp] theorem WQ (m m' : Md) (l : List Rp) : X.bk m (l.map (bW m')) = l.map (bW m):=by induction l <;> simp_all [X.bk,X.cG,X.md]
@[simp] theorem U9 (l : List Rp) : X.clean.aQ (l.map (bW .own)) = true:=by induction l <;> simp_all [X.clean.aQ,X.clean.bD,X.clean]
@[simp] theorem Vm (l : List Rp) : X.clean.aQ (l.map (bW .sl)) = true:=by induction l <;> simp_all [X.clean.aQ,X.clean.bD,X.clean]
def bU (a : Rp) : Nat:=bA a.q + bY a.resp + bT a.obj
structure n5 (x : Rp) : Prop where
 OX : bI x.client
 oN : n6 x.q
 oO : n7 x.resp
 Fa : bI x.kind
 AO : bI x.t
 AM : qB x.obj
 E9 : bI x.aX
theorem KN (a b : Rp) : decide (a = b) = (decide (a.client = b.client) && decide (a.q = b.q) && decide (a.resp = b.resp) && decide (a.kind = b.kind) && decide (a.t = b.t) && decide (a.obj = b.obj) && decide (a.aX = b.aX)):=by
 cases a; cases b; simp [Bool.and_assoc]
structure Ca where
 ck : Sh
 aH : List Fl
 now : Int
 seen : List Se
 sent : List Rp
 deriving DecidableEq
@[simp] def cg (m : Md) (a : Ca) : List X:=[.row m 1 ((a.ck.bz.cells).map eS),.row m 2 ((a.ck.bz.pending).map eW),.row m 9 ((a.ck.aC).map (aY m)),.row m 4 ((a.ck.aX).map bQ),.int .i64 a.ck.next,.int .i64 a.ck.seq,.row m 13 ((a.aH).map (aP m)),.int .i64 a.now,.row m 8 ((a.seen).map (cx m)),.row m 18 ((a.sent).map (bW m))]
@[simp] theorem WI (m m' : Md) (l : List Ca) : X.bk m (l.map (cg m')) = l.map (cg m):=by induction l <;> simp_all [X.bk,X.cG,X.md]
@[simp] theorem U2 (l : List Ca) : X.clean.aQ (l.map (cg .own)) = true:=by induction l <;> simp_all [X.clean.aQ,X.clean.bD,X.clean]
@[simp] theorem Vh (l : List Ca) : X.clean.aQ (l.map (cg .sl)) = true:=by induction l <;> simp_all [X.clean.aQ,X.clean.bD,X.clean]
def cr (a : Ca) : Nat:=b8 a.ck + wL bg a.aH + wL bZ a.seen + wL bU a.sent
structure uF (x : Ca) : Prop where
 O8 : yp x.ck
 OZ : (bL nZ) x.aH
 Wu : bI x.now
 O5 : (bL n8) x.seen
 O6 : (bL n5) x.sent
theorem KH (a b : Ca) : decide (a = b) = (decide (a.ck = b.ck) && decide (a.aH = b.aH) && decide (a.now = b.now) && decide (a.seen = b.seen) && decide (a.sent = b.sent)):=by
 cases a; cases b; simp [Bool.and_assoc]
structure De where
 kind : Int
 client : Int
 q : Rq
 a : Int
 resp : dh
 kZ : Bn
 keep : List Bool
 deriving DecidableEq
@[simp] def uQ (m : Md) (a : De) : List X:=[.int .i64 a.kind,.int .i64 a.client,.int .i64 a.q.method,.str ⟨(a.q.path).toArray⟩,.row m 2 ((a.q.fields).map aG),.str ⟨(a.q.body).toArray⟩,.int .i64 a.a,.int .i64 a.resp.status,.row m 2 ((a.resp.fields).map aG),.str ⟨(a.resp.body).toArray⟩,.int .i64 a.kZ.kind,.str ⟨(a.kZ.a).toArray⟩,.str ⟨(a.kZ.b).toArray⟩,.int .i64 a.kZ.t,.row m 1 ((a.keep).map eB)]
@[simp] theorem WJ (m m' : Md) (l : List De) : X.bk m (l.map (uQ m')) = l.map (uQ m):=by induction l <;> simp_all [X.bk,X.cG,X.md]
@[simp] theorem U3 (l : List De) : X.clean.aQ (l.map (uQ .own)) = true:=by induction l <;> simp_all [X.clean.aQ,X.clean.bD,X.clean]
@[simp] theorem Vi (l : List De) : X.clean.aQ (l.map (uQ .sl)) = true:=by induction l <;> simp_all [X.clean.aQ,X.clean.bD,X.clean]
structure UF (x : De) : Prop where
 Fa : bI x.kind
 OX : bI x.client
 oN : n6 x.q
 E8 : bI x.a
 oO : n7 x.resp
 Wo : mw x.kZ
 Wq : (bL bB) x.keep
theorem Du {ts : List Ty} {l : List X} (h : cu ([.str,.str] ++ ts) l) : ∃ (a : aK) (l' : List X),l = aG a ++ l'∧kY a∧cu ts l':=by
 simp only [List.cons_append,List.nil_append] at h
 obtain ⟨y1,r1,rfl,c1,h1⟩:=h.cons
 obtain ⟨a1,rfl,b1⟩:=gY c1
 obtain ⟨y2,r2,rfl,c2,h2⟩:=h1.cons
 obtain ⟨a2,rfl,b2⟩:=gY c2
 exact ⟨⟨a1,a2⟩,r2,by simp,⟨b1,b2⟩,h2⟩
theorem za {ts : List Ty} {l : List X} (h : cu ([.int .i64,.row [.str,.str],.str] ++ ts) l) : ∃ (a : dh) (l' : List X),l = gZ .sl a ++ l'∧n7 a∧cu ts l':=by
 simp only [List.cons_append,List.nil_append] at h
 obtain ⟨y1,r1,rfl,c1,h1⟩:=h.cons
 obtain ⟨a1,rfl,b1⟩:=eX c1
 obtain ⟨y2,r2,rfl,c2,h2⟩:=h1.cons
 obtain ⟨a2,rfl,b2⟩:=gX aG kY c2 fun r hr=>by
  obtain ⟨a,l',rfl,h1,h2⟩:=Du (ts:=[]) (by simpa using hr)
  obtain rfl:=h2.nil
  exact ⟨a,by simp,h1⟩
 obtain ⟨y3,r3,rfl,c3,h3⟩:=h2.cons
 obtain ⟨a3,rfl,b3⟩:=gY c3
 exact ⟨⟨a1,a2,a3⟩,r3,by simp,⟨b1,b2,b3⟩,h3⟩
theorem y9 {ts : List Ty} {l : List X} (h : cu ([.int .i64,.str,.row [.str,.str],.str] ++ ts) l) : ∃ (a : Rq) (l' : List X),l = eY .sl a ++ l'∧n6 a∧cu ts l':=by
 simp only [List.cons_append,List.nil_append] at h
 obtain ⟨y1,r1,rfl,c1,h1⟩:=h.cons
 obtain ⟨a1,rfl,b1⟩:=eX c1
 obtain ⟨y2,r2,rfl,c2,h2⟩:=h1.cons
 obtain ⟨a2,rfl,b2⟩:=gY c2
 obtain ⟨y3,r3,rfl,c3,h3⟩:=h2.cons
 obtain ⟨a3,rfl,b3⟩:=gX aG kY c3 fun r hr=>by
  obtain ⟨a,l',rfl,h1,h2⟩:=Du (ts:=[]) (by simpa using hr)
  obtain rfl:=h2.nil
  exact ⟨a,by simp,h1⟩
 obtain ⟨y4,r4,rfl,c4,h4⟩:=h3.cons
 obtain ⟨a4,rfl,b4⟩:=gY c4
 exact ⟨⟨a1,a2,a3,a4⟩,r4,by simp,⟨b1,b2,b3,b4⟩,h4⟩
theorem y8 {ts : List Ty} {l : List X} (h : cu ([.str,.row [.str],.row [.str],.int .i64,.row [.str,.str],.str,.int .i64] ++ ts) l) : ∃ (a : Ob) (l' : List X),l = eE .sl a ++ l'∧qB a∧cu ts l':=by
 simp only [List.cons_append,List.nil_append] at h
 obtain ⟨y1,r1,rfl,c1,h1⟩:=h.cons
 obtain ⟨a1,rfl,b1⟩:=gY c1
 obtain ⟨y2,r2,rfl,c2,h2⟩:=h1.cons
 obtain ⟨a2,rfl,b2⟩:=gX eS bS c2 fun r hr=>by
  obtain ⟨x,r',rfl,h1,h2⟩:=hr.cons
  obtain rfl:=h2.nil
  obtain ⟨s,rfl,hs⟩:=gY h1
  exact ⟨s,rfl,hs⟩
 obtain ⟨y3,r3,rfl,c3,h3⟩:=h2.cons
 obtain ⟨a3,rfl,b3⟩:=gX eS bS c3 fun r hr=>by
  obtain ⟨x,r',rfl,h1,h2⟩:=hr.cons
  obtain rfl:=h2.nil
  obtain ⟨s,rfl,hs⟩:=gY h1
  exact ⟨s,rfl,hs⟩
 obtain ⟨a4,r4,rfl,b4,h4⟩:=za (ts:=_) h3
 obtain ⟨y5,r5,rfl,c5,h5⟩:=h4.cons
 obtain ⟨a5,rfl,b5⟩:=eX c5
 exact ⟨⟨a1,a2,a3,a4,a5⟩,r5,by simp,⟨b1,b2,b3,b4,b5⟩,h5⟩
theorem Kz {ts : List Ty} {l : List X} (h : cu ([.str,.row [.str],.row [.str],.int .i64,.row [.str,.str],.str,.int .i64,.int .i64,.int .i64] ++ ts) l) : ∃ (a : Kp) (l' : List X),l = aY .sl a ++ l'∧n4 a∧cu ts l':=by
 simp only [List.cons_append,List.nil_append] at h
 obtain ⟨a1,r1,rfl,b1,h1⟩:=y8 (ts:=_) h
 obtain ⟨y2,r2,rfl,c2,h2⟩:=h1.cons
 obtain ⟨a2,rfl,b2⟩:=eX c2
 obtain ⟨y3,r3,rfl,c3,h3⟩:=h2.cons
 obtain ⟨a3,rfl,b3⟩:=eX c3
 exact ⟨⟨a1,a2,a3⟩,r3,by simp,⟨b1,b2,b3⟩,h3⟩
theorem KD {ts : List Ty} {l : List X} (h : cu ([.int .i64,.str] ++ ts) l) : ∃ (a : Wr) (l' : List X),l = eW a ++ l'∧n9 a∧cu ts l':=by
 simp only [List.cons_append,List.nil_append] at h
 obtain ⟨y1,r1,rfl,c1,h1⟩:=h.cons
 obtain ⟨a1,rfl,b1⟩:=eX c1
 obtain ⟨y2,r2,rfl,c2,h2⟩:=h1.cons
 obtain ⟨a2,rfl,b2⟩:=gY c2
 exact ⟨⟨a1,a2⟩,r2,by simp,⟨b1,b2⟩,h2⟩
theorem Kw {ts : List Ty} {l : List X} (h : cu ([.row [.str],.row [.int .i64,.str]] ++ ts) l) : ∃ (a : eu) (l' : List X),l = ga .sl a ++ l'∧yo a∧cu ts l':=by
 simp only [List.cons_append,List.nil_append] at h
 obtain ⟨y1,r1,rfl,c1,h1⟩:=h.cons
 obtain ⟨a1,rfl,b1⟩:=gX eS bS c1 fun r hr=>by
  obtain ⟨x,r',rfl,h1,h2⟩:=hr.cons
  obtain rfl:=h2.nil
  obtain ⟨s,rfl,hs⟩:=gY h1
  exact ⟨s,rfl,hs⟩
 obtain ⟨y2,r2,rfl,c2,h2⟩:=h1.cons
 obtain ⟨a2,rfl,b2⟩:=gX eW n9 c2 fun r hr=>by
  obtain ⟨a,l',rfl,h1,h2⟩:=KD (ts:=[]) (by simpa using hr)
  obtain rfl:=h2.nil
  exact ⟨a,by simp,h1⟩
 exact ⟨⟨a1,a2⟩,r2,by simp,⟨b1,b2⟩,h2⟩
theorem Ku {ts : List Ty} {l : List X} (h : cu ([.int .i64,.str,.str,.int .i64] ++ ts) l) : ∃ (a : Bn) (l' : List X),l = bQ a ++ l'∧mw a∧cu ts l':=by
 simp only [List.cons_append,List.nil_append] at h
 obtain ⟨y1,r1,rfl,c1,h1⟩:=h.cons
 obtain ⟨a1,rfl,b1⟩:=eX c1
 obtain ⟨y2,r2,rfl,c2,h2⟩:=h1.cons
 obtain ⟨a2,rfl,b2⟩:=gY c2
 obtain ⟨y3,r3,rfl,c3,h3⟩:=h2.cons
 obtain ⟨a3,rfl,b3⟩:=gY c3
 obtain ⟨y4,r4,rfl,c4,h4⟩:=h3.cons
 obtain ⟨a4,rfl,b4⟩:=eX c4
 exact ⟨⟨a1,a2,a3,a4⟩,r4,by simp,⟨b1,b2,b3,b4⟩,h4⟩
theorem KC {ts : List Ty} {l : List X} (h : cu ([.row [.str],.row [.int .i64,.str],.row [.str,.row [.str],.row [.str],.int .i64,.row [.str,.str],.str,.int .i64,.int .i64,.int .i64],.row [.int .i64,.str,.str,.int .i64],.int .i64,.int .i64] ++ ts) l) : ∃ (a : Sh) (l' : List X),l = bX .sl a ++ l'∧yp a∧cu ts l':=by
 simp only [List.cons_append,List.nil_append] at h
 obtain ⟨a1,r1,rfl,b1,h1⟩:=Kw (ts:=_) h
 obtain ⟨y2,r2,rfl,c2,h2⟩:=h1.cons
 obtain ⟨a2,rfl,b2⟩:=gX (aY .sl) n4 c2 fun r hr=>by
  obtain ⟨a,l',rfl,h1,h2⟩:=Kz (ts:=[]) (by simpa using hr)
  obtain rfl:=h2.nil
  exact ⟨a,by simp,h1⟩
 obtain ⟨y3,r3,rfl,c3,h3⟩:=h2.cons
 obtain ⟨a3,rfl,b3⟩:=gX bQ mw c3 fun r hr=>by
  obtain ⟨a,l',rfl,h1,h2⟩:=Ku (ts:=[]) (by simpa using hr)
  obtain rfl:=h2.nil
  exact ⟨a,by simp,h1⟩
 obtain ⟨y4,r4,rfl,c4,h4⟩:=h3.cons
 obtain ⟨a4,rfl,b4⟩:=eX c4
 obtain ⟨y5,r5,rfl,c5,h5⟩:=h4.cons
 obtain ⟨a5,rfl,b5⟩:=eX c5
 exact ⟨⟨a1,a2,a3,a4,a5⟩,r5,by simp,⟨b1,b2,b3,b4,b5⟩,h5⟩
theorem Ky {ts : List Ty} {l : List X} (h : cu ([.int .i64,.str,.row [.str,.str],.str,.row [.int .i64],.str,.row [.str],.row [.str],.int .i64,.row [.str,.str],.str,.int .i64,.bool] ++ ts) l) : ∃ (a : Fl) (l' : List X),l = aP .sl a ++ l'∧nZ a∧cu ts l':=by
 simp only [List.cons_append,List.nil_append] at h
 obtain ⟨a1,r1,rfl,b1,h1⟩:=y9 (ts:=_) h
 obtain ⟨y2,r2,rfl,c2,h2⟩:=h1.cons
 obtain ⟨a2,rfl,b2⟩:=gX eI bI c2 fun r hr=>by
  obtain ⟨x,r',rfl,h1,h2⟩:=hr.cons
  obtain rfl:=h2.nil
  obtain ⟨s,rfl,hs⟩:=eX h1
  exact ⟨s,rfl,hs⟩
 obtain ⟨a3,r3,rfl,b3,h3⟩:=y8 (ts:=_) h2
 obtain ⟨y4,r4,rfl,c4,h4⟩:=h3.cons
 obtain ⟨a4,rfl⟩:=KE c4
 exact ⟨⟨a1,a2,a3,a4⟩,r4,by simp,⟨b1,b2,b3,trivial⟩,h4⟩
theorem KB {ts : List Ty} {l : List X} (h : cu ([.int .i64,.str,.row [.str,.str],.str,.int .i64,.row [.str,.str],.str,.int .i64] ++ ts) l) : ∃ (a : Se) (l' : List X),l = cx .sl a ++ l'∧n8 a∧cu ts l':=by
 simp only [List.cons_append,List.nil_append] at h
 obtain ⟨a1,r1,rfl,b1,h1⟩:=y9 (ts:=_) h
 obtain ⟨a2,r2,rfl,b2,h2⟩:=za (ts:=_) h1
 obtain ⟨y3,r3,rfl,c3,h3⟩:=h2.cons
 obtain ⟨a3,rfl,b3⟩:=eX c3
 exact ⟨⟨a1,a2,a3⟩,r3,by simp,⟨b1,b2,b3⟩,h3⟩
theorem KA {ts : List Ty} {l : List X} (h : cu ([.int .i64,.int .i64,.str,.row [.str,.str],.str,.int .i64,.row [.str,.str],.str,.int .i64,.int .i64,.str,.row [.str],.row [.str],.int .i64,.row [.str,.str],.str,.int .i64,.int .i64] ++ ts) l) : ∃ (a : Rp) (l' : List X),l = bW .sl a ++ l'∧n5 a∧cu ts l':=by
 simp only [List.cons_append,List.nil_append] at h
 obtain ⟨y1,r1,rfl,c1,h1⟩:=h.cons
 obtain ⟨a1,rfl,b1⟩:=eX c1
 obtain ⟨a2,r2,rfl,b2,h2⟩:=y9 (ts:=_) h1
 obtain ⟨a3,r3,rfl,b3,h3⟩:=za (ts:=_) h2
 obtain ⟨y4,r4,rfl,c4,h4⟩:=h3.cons
 obtain ⟨a4,rfl,b4⟩:=eX c4
 obtain ⟨y5,r5,rfl,c5,h5⟩:=h4.cons
 obtain ⟨a5,rfl,b5⟩:=eX c5
 obtain ⟨a6,r6,rfl,b6,h6⟩:=y8 (ts:=_) h5
 obtain ⟨y7,r7,rfl,c7,h7⟩:=h6.cons
 obtain ⟨a7,rfl,b7⟩:=eX c7
 exact ⟨⟨a1,a2,a3,a4,a5,a6,a7⟩,r7,by simp,⟨b1,b2,b3,b4,b5,b6,b7⟩,h7⟩
def Rz : List Ty:=[.row [.str],.row [.int .i64,.str],.row [.str,.row [.str],.row [.str],.int .i64,.row [.str,.str],.str,.int .i64,.int .i64,.int .i64],.row [.int .i64,.str,.str,.int .i64],.int .i64,.int .i64,.row [.int .i64,.str,.row [.str,.str],.str,.row [.int .i64],.str,.row [.str],.row [.str],.int .i64,.row [.str,.str],.str,.int .i64,.bool],.int .i64,.row [.int .i64,.str,.row [.str,.str],.str,.int .i64,.row [.str,.str],.str,.int .i64],.row [.int .i64,.int .i64,.str,.row [.str,.str],.str,.int .i64,.row [.str,.str],.str,.int .i64,.int .i64,.str,.row [.str],.row [.str],.int .i64,.row [.str,.str],.str,.int .i64,.int .i64]]
theorem Kv {ts : List Ty} {l : List X} (h : cu ([.row [.str],.row [.int .i64,.str],.row [.str,.row [.str],.row [.str],.int .i64,.row [.str,.str],.str,.int .i64,.int .i64,.int .i64],.row [.int .i64,.str,.str,.int .i64],.int .i64,.int .i64,.row [.int .i64,.str,.row [.str,.str],.str,.row [.int .i64],.str,.row [.str],.row [.str],.int .i64,.row [.str,.str],.str,.int .i64,.bool],.int .i64,.row [.int .i64,.str,.row [.str,.str],.str,.int .i64,.row [.str,.str],.str,.int .i64],.row [.int .i64,.int .i64,.str,.row [.str,.str],.str,.int .i64,.row [.str,.str],.str,.int .i64,.int .i64,.str,.row [.str],.row [.str],.int .i64,.row [.str,.str],.str,.int .i64,.int .i64]] ++ ts) l) : ∃ (a : Ca) (l' : List X),l = cg .sl a ++ l'∧uF a∧cu ts l':=by
 simp only [List.cons_append,List.nil_append] at h
 obtain ⟨a1,r1,rfl,b1,h1⟩:=KC (ts:=_) h
 obtain ⟨y2,r2,rfl,c2,h2⟩:=h1.cons
 obtain ⟨a2,rfl,b2⟩:=gX (aP .sl) nZ c2 fun r hr=>by
  obtain ⟨a,l',rfl,h1,h2⟩:=Ky (ts:=[]) (by simpa using hr)
  obtain rfl:=h2.nil
  exact ⟨a,by simp,h1⟩
 obtain ⟨y3,r3,rfl,c3,h3⟩:=h2.cons
 obtain ⟨a3,rfl,b3⟩:=eX c3
 obtain ⟨y4,r4,rfl,c4,h4⟩:=h3.cons
 obtain ⟨a4,rfl,b4⟩:=gX (cx .sl) n8 c4 fun r hr=>by
  obtain ⟨a,l',rfl,h1,h2⟩:=KB (ts:=[]) (by simpa using hr)
  obtain rfl:=h2.nil
  exact ⟨a,by simp,h1⟩
 obtain ⟨y5,r5,rfl,c5,h5⟩:=h4.cons
 obtain ⟨a5,rfl,b5⟩:=gX (bW .sl) n5 c5 fun r hr=>by
  obtain ⟨a,l',rfl,h1,h2⟩:=KA (ts:=[]) (by simpa using hr)
  obtain rfl:=h2.nil
  exact ⟨a,by simp,h1⟩
 exact ⟨⟨a1,a2,a3,a4,a5⟩,r5,by simp,⟨b1,b2,b3,b4,b5⟩,h5⟩
theorem Vu {x : X} (h : kP (.agg Rz) x) : ∃ a,x = .agg (cg .sl a)∧uF a:=by
 obtain ⟨l,rfl,hl⟩:=Kt h
 obtain ⟨a,l',rfl,h1,h2⟩:=Kv (ts:=[]) (l:=l) (by rw [List.append_nil]; exact hl)
 obtain rfl:=h2.nil
 exact ⟨a,by simp,h1⟩
end M
namespace M
open Go
def cX {β : Type} (p : β→Bool) : Nat→List β→Option (Nat×β)
 | _,[]=>none
 | i,b :: l=>if p b = true then some (i,b) else cX p (i + 1) l
theorem oA {β : Type} {p : β→Bool} : ∀ {l : List β} {k i : Nat} {b : β},cX p k l = some (i,b)→k≤i∧l[i - k]? = some b∧p b = true
 | b' :: l,k,i,b,h=>by
  unfold cX at h
  split at h
  ·rename_i hp
   cases h
   exact ⟨Nat.le_refl _,by simp,hp⟩
  ·obtain ⟨h1,h2,h3⟩:=oA h
   refine ⟨by omega,?_,h3⟩
   rw [show i - k = (i - (k + 1)) + 1 by omega,List.getElem?_cons_succ]
   exact h2
theorem zx {β : Type} {p : β→Bool} : ∀ {l : List β} {k : Nat},cX p k l = none↔∀ b∈l,¬ p b = true
 | [],k=>by simp [cX]
 | b' :: l,k=>by
  unfold cX
  by_cases hp : p b' = true
  ·simp [hp]
  ·rw [if_neg hp,zx]
   simp [hp]
theorem sQ {xt : Nat} {β : Type} {f : ag→bC} (l : List β) (st : Nat→ag) (p : β→Bool) (R : Nat→β→ag) (E : ag)
  (h : ∀ i b,l[i]? = some b→i < l.length→f (st i) = if p b = true then some (.ret,R i b) else some (.normal,st (i + 1)))
  (hend : f (st l.length) = some (.exit xt,E)) :
  aE f (st 0) = (cX p 0 l).elim (some (.exit xt,E)) fun x=>some (.ret,R x.1 x.2):=by
 suffices H : ∀ (r : List β) (i : Nat),l.drop i = r→i≤l.length→aE f (st i) = (cX p i r).elim (some (.exit xt,E)) fun x=>some (.ret,R x.1 x.2) from H l 0 rfl (Nat.zero_le _)
 intro r
 induction r with
 | nil =>
  intro i hr hi
  have : i = l.length:=by
   have:=congrArg List.length hr
   simp at this
   omega
  subst this
  rw [iW,hend]
  rfl
 | cons b r ih =>
  intro i hr hi
  have hb : l[i]? = some b:=by
   have:=congrArg (fun t : List β=>t[0]?) hr
   simpa using this
  have hlt : i < l.length:=(List.getElem?_eq_some_iff.1 hb).1
  have hd : l.drop (i + 1) = r:=by
   have:=congrArg List.tail hr
   simpa using this
  rw [iW,h i b hb hlt]
  unfold cX
  by_cases hp : p b = true
  ·simp [hp,lv]
  ·simp only [hp]
   exact ih (i + 1) hd hlt
theorem nv {xt : Nat} {β γ : Type} {f : ag→bC} (l : List β) (φ : β→List γ) (st : Nat→List γ→ag) (E : List γ→ag)
  (h : ∀ i b out,l[i]? = some b→i < l.length→out = (l.take i).flatMap φ→f (st i out) = some (.normal,st (i + 1) (out ++ φ b)))
  (hend : ∀ out,out = l.flatMap φ→f (st l.length out) = some (.exit xt,E out)) :
  aE f (st 0 []) = some (.exit xt,E (l.flatMap φ)):=by
 suffices H : ∀ (k i : Nat),i + k = l.length→aE f (st i ((l.take i).flatMap φ)) = some (.exit xt,E (l.flatMap φ)) from H l.length 0 (by omega)
 intro k
 induction k with
 | zero =>
  intro i hi
  obtain rfl : i = l.length:=by omega
  rw [List.take_length,iW,hend _ rfl]
  rfl
 | succ k ih =>
  intro i hi
  have hlt : i < l.length:=by omega
  rw [iW,h i l[i] _ (List.getElem?_eq_getElem hlt) hlt rfl]
  have : (l.take i).flatMap φ ++ φ l[i] = (l.take (i + 1)).flatMap φ:=by
   rw [List.take_succ_eq_append_getElem hlt,List.flatMap_append]
   simp
  simp only [this]
  exact ih (i + 1) (by omega)
theorem zz {β γ : Type} (g : β→γ) (l : List β) : l.flatMap (fun b=>[g b]) = l.map g:=by induction l <;> simp_all
theorem D8 {β γ : Type} (g : β→γ) (l : List β) (i : Nat) (h : i≤l.length) : ((l.take i).flatMap (fun b=>[g b])).length = i:=by rw [zz]; simp; omega
end M
namespace M
open Go
def iY (b : UInt8) : UInt8:=if 65≤b.toNat∧b.toNat≤90 then b + 32 else b
def br (s : ah) : ah:=s.map iY
def nT (b : UInt8) : Bool:=decide ((97≤b.toNat∧b.toNat≤122)∨(48≤b.toNat∧b.toNat≤57)∨b.toNat = 45)
def ek (s : ah) : Bool:=aF nT s && decide (1≤(s.length : Int)∧(s.length : Int)≤20)
def fW (lo : Nat) (b : UInt8) : Bool:=decide (lo≤b.toNat∧b.toNat≤126)
def dD (s : ah) : ah:=Lib.trimB s 32
def gx (s : ah) : Bool:=aF (fW 32) s && decide (1≤(s.length : Int)∧(s.length : Int)≤60) && decide (dD s = s)
def nA (n : Int) : ah:=if 0≤n∧n≤1000000 then cI n.toNat else []
def ey (b : UInt8) : Bool:=decide (48≤b.toNat∧b.toNat≤57)
def iC (s : ah) : Nat:=s.foldl (fun x b=>10 * x + b.toNat - 48) 0
def cL (s : ah) : Option Nat:=if iC s≤1000000∧cI (iC s) = s then some (iC s) else none
def fV (s : ah) : Bool:=aF (fW 33) s && decide (1≤(s.length : Int)∧(s.length : Int)≤60) && decide (s[0]?.map (fun b : UInt8=>(b.toNat : Int)) = some 47)
theorem zh {α : Type} (p : α→Bool) : ∀ (a b : List α),(∃ x∈a,p x = false)→(a ++ b).dropWhile p = a.dropWhile p ++ b
 | [],b,h=>by simp at h
 | x :: a,b,h=>by
  simp only [List.cons_append,List.dropWhile_cons]
  by_cases hx : p x = true
  ·simp only [hx,if_true]
   refine zh p a b ?_
   obtain ⟨y,hy,hp⟩:=h
   rcases List.mem_cons.1 hy with rfl | hy
   ·rw [hx] at hp; cases hp
   ·exact ⟨y,hy,hp⟩
  ·simp [hx]
theorem zg {α : Type} (p : α→Bool) : ∀ (a : List α),(∀ x∈a,p x = true)→a.dropWhile p = []
 | [],_=>rfl
 | x :: a,h=>by
  rw [List.dropWhile_cons,if_pos (h x (List.mem_cons_self ..))]
  exact zg p a fun y hy=>h y (List.mem_cons_of_mem _ hy)
theorem zi {α : Type} (p : α→Bool) : ∀ {a : List α} {x : α},x∈a→p x = false→x∈a.dropWhile p
 | y :: a,x,h,hp=>by
  rw [List.dropWhile_cons]
  by_cases hy : p y = true
  ·rw [if_pos hy]
   rcases List.mem_cons.1 h with rfl | h
   ·rw [hy] at hp; cases hp
   ·exact zi p h hp
  ·rw [if_neg hy]; exact h
theorem Dz {α : Type} (p : α→Bool) (l : List α) : ∃ a,l = a ++ l.dropWhile p∧∀ x∈a,p x = true:=by
 refine ⟨l.takeWhile p,(List.takeWhile_append_dropWhile).symm,fun x hx=>?_⟩
 have:=List.all_takeWhile (l:=l) (p:=p)
 exact List.all_eq_true.1 this x hx
theorem Ue (p : UInt8→Bool) (l : List UInt8) : (l.reverse.dropWhile p).reverse.dropWhile p = ((l.dropWhile p).reverse.dropWhile p).reverse:=by
 by_cases h : ∃ x∈l,p x = false
 ·obtain ⟨x,hx,hp⟩:=h
  obtain ⟨a,e1,h1⟩:=Dz p l
  have hm : x∈l.dropWhile p:=zi p hx hp
  have e2 : l.reverse.dropWhile p = (l.dropWhile p).reverse.dropWhile p ++ a.reverse:=by
   conv=>lhs; rw [e1,List.reverse_append]
   exact zh p _ _ ⟨x,by simpa using hm,hp⟩
  rw [e2,List.reverse_append,List.reverse_reverse]
  obtain ⟨b,e3,h3⟩:=Dz p (l.dropWhile p).reverse
  generalize hd : (l.dropWhile p).reverse.dropWhile p = d at e3 ⊢
  have N1 : ∃ y∈d,p y = false:=⟨x,by rw [← hd]; exact zi p (by simpa using hm) hp,hp⟩
  have e4 : l.dropWhile p = d.reverse ++ b.reverse:=by
   have:=congrArg List.reverse e3
   simpa using this
  have e5 : (a ++ d.reverse).dropWhile p = d.reverse.dropWhile p:=by
   clear e1 e2 e3 hm
   induction a with
   | nil=>rfl
   | cons y a ih =>
    rw [List.cons_append,List.dropWhile_cons,if_pos (h1 y (List.mem_cons_self ..))]
    exact ih fun z hz=>h1 z (List.mem_cons_of_mem _ hz)
  rw [e5]
  have e6 : (l.dropWhile p).dropWhile p = l.dropWhile p:=by
   have : ∀ l : List UInt8,(l.dropWhile p).dropWhile p = l.dropWhile p:=by
    intro l
    induction l with
    | nil=>rfl
    | cons y l ih =>
     rw [List.dropWhile_cons]
     by_cases hy : p y = true
     ·rw [if_pos hy]; exact ih
     ·rw [if_neg hy,List.dropWhile_cons,if_neg hy]
   exact this l
  rw [e4] at e6
  rw [zh p d.reverse b.reverse (by obtain ⟨y,hy,hp⟩:=N1; exact ⟨y,by simpa using hy,hp⟩)] at e6
  exact List.append_cancel_right e6
 ·have h1 : ∀ x∈l,p x = true:=fun x hx=>by
   cases hp : p x with
   | true=>rfl
   | false=>exact absurd ⟨x,hx,hp⟩ h
  rw [zg p l h1,zg p l.reverse (fun x hx=>h1 x (by simpa using hx))]
  rfl
theorem Ud (s : ah) : dD s = Lib.trimRightB (Lib.trimLeftB s 32) 32:=Ue _ s
theorem Gq (s : ah) : (dD s).length≤s.length:=by
 unfold dD Lib.trimB Lib.trimLeftB Lib.trimRightB
 have h1:=(List.dropWhile_sublist (l:=(List.dropWhile (fun x=>x == 32) s.reverse).reverse) (fun x=>x == (32 : UInt8))).length_le
 have h2:=(List.dropWhile_sublist (l:=s.reverse) (fun x=>x == (32 : UInt8))).length_le
 simp only [List.length_reverse] at h1 h2
 omega
theorem Nz {α β : Type} (f : β→α→β) (l : List α) (a : α) (b : β) : (l ++ [a]).foldl f b = f (l.foldl f b) a:=by simp
theorem zc (n : Nat) : cI n≠[]:=by
 intro h
 have : (cI n).length = Lib.nDigits n:=Lib.decDigits_length n
 rw [h] at this
 have h2:=Lib.nDigits_pos n
 rw [← this] at h2
 simp at h2
theorem zf (n : Nat) (h : ¬ n < 10) : cI n = cI (n / 10) ++ [UInt8.ofNat (48 + n % 10)]:=by
 unfold cI
 rw [Lib.decDigits,dif_neg h]
theorem ze (n : Nat) (h : n < 10) : cI n = [UInt8.ofNat (48 + n)]:=by
 unfold cI
 rw [Lib.decDigits,dif_pos h]
theorem ou (k : Nat) (h : k < 10) : (UInt8.ofNat (48 + k)).toNat = 48 + k:=by
 rw [UInt8.toNat_ofNat']
 omega
theorem Gw : ∀ n : Nat,iC (cI n) = n:=by
 intro n
 induction n using Nat.strongRecOn with
 | ind n ih =>
  by_cases h : n < 10
  ·rw [ze n h]
   simp only [iC,List.foldl_cons,List.foldl_nil,ou n h]
   omega
  ·rw [zf n h]
   have:=ih (n / 10) (by omega)
   unfold iC at this ⊢
   rw [Nz,this,ou _ (by omega)]
   omega
theorem Dx : ∀ n : Nat,aF ey (cI n) = true:=by
 intro n
 induction n using Nat.strongRecOn with
 | ind n ih =>
  rw [iF]
  by_cases h : n < 10
  ·rw [ze n h]
   intro x hx
   rw [List.mem_singleton.1 hx]
   unfold ey
   rw [ou n h]
   simp; omega
  ·rw [zf n h]
   intro x hx
   rcases List.mem_append.1 hx with hx | hx
   ·exact iF.1 (ih _ (by omega)) x hx
   ·rw [List.mem_singleton.1 hx]
    unfold ey
    rw [ou _ (by omega)]
    simp; omega
theorem pL {s : ah} {n : Nat} : cL s = some n↔n≤1000000∧cI n = s:=by
 unfold cL
 constructor
 ·intro h
  split at h
  ·rename_i hc
   cases h
   exact hc
  ·cases h
 ·rintro ⟨h1,rfl⟩
  rw [Gw,if_pos ⟨h1,rfl⟩]
theorem KU (n : Nat) (h : n≤1000000) : (cI n).length≤7:=KT 6 n (by omega)
theorem PW (n : Nat) (h : n≤1000000) : nA (n : Int) = cI n:=by
 unfold nA
 rw [if_pos (by omega)]
 rfl
theorem PU (s : ah) (h : s.length≤7) : cL s = if s≠[]∧aF ey s = true∧nA (iC s) = s then some (iC s) else none:=by
 cases hr : cL s with
 | some n =>
  obtain ⟨h1,rfl⟩:=pL.1 hr
  rw [Gw,if_pos ⟨zc n,Dx n,PW n h1⟩]
 | none =>
  rw [if_neg]
  rintro ⟨h1,h2,h3⟩
  have : cL s = some (iC s):=by
   refine pL.2 ?_
   unfold nA at h3
   split at h3
   ·rename_i hc
    exact ⟨by omega,h3⟩
   ·exact absurd h3.symm h1
  rw [this] at hr
  cases hr
theorem QL : ∀ (n acc : Nat) (l : List UInt8),acc * 10 ^ Lib.nDigits n + n < 10000000000→Lib.parseUint10 acc (cI n ++ l) = Lib.parseUint10 (acc * 10 ^ Lib.nDigits n + n) l:=by
 intro n
 induction n using Nat.strongRecOn with
 | ind n ih =>
  intro acc l hn
  by_cases h : n < 10
  ·rw [ze n h]
   simp only [List.cons_append,List.nil_append,Lib.parseUint10,ou n h]
   rw [Lib.nDigits_small h] at hn ⊢
   rw [if_pos (by omega),if_neg (by omega),if_neg (by omega)]
   congr 1
   omega
  ·rw [zf n h,List.append_assoc]
   have e:=Lib.nDigits_big h
   rw [e,Nat.pow_succ] at hn ⊢
   have hm : acc * (10 ^ Lib.nDigits (n / 10) * 10) = acc * 10 ^ Lib.nDigits (n / 10) * 10:=by rw [Nat.mul_assoc]
   rw [hm] at hn ⊢
   rw [ih (n / 10) (by omega) acc _ (by omega)]
   have hd:=ou (n % 10) (by omega)
   simp only [List.cons_append,List.nil_append,Lib.parseUint10,hd]
   rw [if_pos (by omega),if_neg (by omega),if_neg (by omega)]
   congr 1
   omega
theorem CM (n : Nat) (h : n≤1000000) : Lib.atoiAll (cI n) = .ok (n : Int):=by
 cases hd : cI n with
 | nil=>exact absurd hd (zc n)
 | cons c r =>
  have hc:=iF.1 (Dx n) c (by rw [hd]; exact List.mem_cons_self ..)
  simp only [ey,decide_eq_true_eq] at hc
  rw [Lib.atoiAll_plain c r (by omega) (by omega),← hd]
  unfold Lib.parseMag
  rw [if_neg (zc n)]
  have:=QL n 0 [] (by omega)
  rw [List.append_nil] at this
  rw [this]
  simp only [Lib.parseUint10,Lib.signless]
  rw [if_neg (by omega)]
  simp
theorem PT (s : ah) (n : Int) (h : Lib.atoiAll s = .ok n) : (if 0≤n∧n≤1000000∧Lib.itoa n = s then some n.toNat else none) = cL s:=by
 split
 ·rename_i hc
  symm
  refine pL.2 ⟨by omega,?_⟩
  rw [← E6,← hc.2.2]
  congr 1
  omega
 ·rename_i hc
  cases hr : cL s with
  | none=>rfl
  | some m =>
   obtain ⟨h1,rfl⟩:=pL.1 hr
   rw [CM m h1] at h
   obtain rfl : (m : Int) = n:=by injection h
   exact absurd ⟨by omega,by omega,E6 m⟩ hc
theorem PV (s : ah) (h : ∀ n,Lib.atoiAll s≠.ok n) : cL s = none:=by
 cases hr : cL s with
 | none=>rfl
 | some m =>
  obtain ⟨h1,rfl⟩:=pL.1 hr
  exact absurd (CM m h1) (h m)
theorem Fw (s : ah) (h : 7 < s.length) : cL s = none:=by
 cases hr : cL s with
 | none=>rfl
 | some m =>
  obtain ⟨h1,rfl⟩:=pL.1 hr
  have:=KU m h1
  omega
def cl (c : UInt8) : ah→List ah
 | []=>[[]]
 | b :: s=>if b = c then [] :: cl c s else match cl c s with
  | w :: ws=>(b :: w) :: ws
  | []=>[[b]]
theorem Gc (c : UInt8) (s : ah) : cl c s≠[]:=by
 cases s with
 | nil=>simp [cl]
 | cons b s =>
  unfold cl
  split
  ·simp
  ·split <;> simp
def ep (s : ah) : List ah:=((cl 44 s).map dD).filter fun w=>decide (w≠[])
end M
namespace M
open Go Go.RowKit
def kR (w w' : World) (c : C) : Prop:=(∀ Z,c.ok w' Z)∧c.bare∧∀ b k,c.fp b k→w.heap.size≤b
theorem Il [Bs] {P : Program} {f : FuncId} {xs : List X} {r : X}
  (h : ∀ w zl zb cs,cs.map C.er = xs→kO w zl zb cs→kT w→Calls P f (cs.map C.val).toArray w fun e w'=>∃ c : C,e = .returned c.val∧c.er = r∧Below w.heap.size w w'∧kR w w' c) :
  AC P f xs fun r' ps=>r' = r∧ps = xs.map fun _=>.dead:=by
 intro w zl zb cs e hA jw
 refine (h w zl zb cs e hA fun b hb=>(jw b hb).1).mono fun e' w' ⟨c,he,hc,hb,c1,c2,c3⟩=>?_
 have N6 : Ext (fun b k=>∃ x∈cs,x.fp b k) w w':=⟨hb.os,hb.tape,hb.output,hb.size,fun b hl=>.inl (hb.block b hl)⟩
 refine ⟨c,cs.map fun x=>.dead x.val,zl,⟨he,by rw [List.map_map]; rfl,N6,⟨fun x hx'=>?_,fun x hx'=>?_,fun x hx' b k hf=>?_,fun b k hz=>Nat.lt_of_lt_of_le (hA.bu b k (hz.imp id fun h=>h.elim)) hb.size,?_⟩,fun x hx' b k hf=>?_,fun _ _ h=>h,fun _ _ h=>.inl h⟩,hc,?_⟩
 ·rcases List.mem_cons.1 hx' with rfl | hx'
  ·exact c1 _
  ·obtain ⟨y,_,rfl⟩:=List.mem_map.1 hx'; trivial
 ·rcases List.mem_cons.1 hx' with rfl | hx'
  ·exact c2
  ·obtain ⟨y,_,rfl⟩:=List.mem_map.1 hx'; trivial
 ·rcases List.mem_cons.1 hx' with rfl | hx'
  ·have h1:=c3 b k hf
   exact ⟨fun hz=>by have:=hA.bu b k (.inl hz); omega,fun hz=>hz⟩
  ·obtain ⟨y,_,rfl⟩:=List.mem_map.1 hx'; exact hf.elim
 ·refine List.pairwise_cons.2 ⟨fun x hx b k hf hf'=>?_,?_⟩
  ·obtain ⟨y,_,rfl⟩:=List.mem_map.1 hx; exact hf'
  ·refine List.pairwise_iff_getElem.2 fun i j hi hj _ b k hf=>?_
   obtain ⟨y,_,hy⟩:=List.mem_map.1 (List.getElem_mem hi)
   rw [← hy] at hf
   exact hf.elim
 ·rcases List.mem_cons.1 hx' with rfl | hx'
  ·exact .inr (c3 b k hf)
  ·obtain ⟨y,_,rfl⟩:=List.mem_map.1 hx'; exact hf.elim
 ·rw [← e]
  simp [List.map_map,Function.comp_def,C.er]
def fG (f0 : FuncId) (g : List X→Option X) : bp:=fun f xs=>if f = f0 then (match g xs with
 | some r=>some (r,xs.map fun _=>.dead)
 | none=>none) else none
theorem xb [Bs] {P : Program} {f0 : FuncId} {g : List X→Option X}
  (h : ∀ xs r,g xs = some r→∀ w zl zb cs,cs.map C.er = xs→kO w zl zb cs→kT w→Calls P f0 (cs.map C.val).toArray w fun e w'=>∃ c : C,e = .returned c.val∧c.er = r∧Below w.heap.size w w'∧kR w w' c) : (fG f0 g).Sound P:=fun f xs o e=>by
 unfold fG at e
 split at e
 ·rename_i hf
  subst hf
  split at e
  ·rename_i r hr
   cases e
   exact Il (h xs r hr)
  ·cases e
 ·cases e
theorem zo {c : C} {s : ByteArray} (h : c.er = .str s) : c = .str s:=by cases c <;> simp [C.er] at h; rw [h]
theorem K2 {c : C} {k : IntKind} {n : Int} (h : c.er = .int k n) : c = .int k n:=by cases c <;> simp [C.er] at h; rw [h.1,h.2]
theorem map_nil {l : List C} (h : l.map C.er = []) : l = []:=by simpa using h
theorem map_cons {l : List C} {x : X} {xs : List X} (h : l.map C.er = x :: xs) : ∃ c cs,l = c :: cs∧c.er = x∧cs.map C.er = xs:=by
 cases l with
 | nil=>simp at h
 | cons c cs=>simp at h; exact ⟨c,cs,rfl,h.1,h.2⟩
theorem Ee {w w' : World} {s : ByteArray} (h : s.size≤9223372036854775807) : kR w w' (.str s):=⟨fun _=>h,trivial,fun _ _ h=>h.elim⟩
theorem NA {w w' : World} {k : IntKind} {n : Int} : kR w w' (.int k n):=⟨fun _=>trivial,trivial,fun _ _ h=>h.elim⟩
theorem Ed {w w' : World} {b : Bool} : kR w w' (.bool b):=⟨fun _=>trivial,trivial,fun _ _ h=>h.elim⟩
def qj (l : List C) : C:=.au l.length fun j=>l.getD j (.dead undef)
theorem BJ {α β : Type} (l : List α) (d : α) (g : α→β) : ((List.range l.length).map fun j=>g (l.getD j d)) = l.map g:=by
 apply List.ext_getElem
 ·simp
 ·intro i h1 h2
  simp at h1
  simp [h1]
theorem Co (l : List C) : (qj l).er = .au (l.map C.er):=by
 show X.au _ = _
 rw [BJ l _ C.er]
theorem Cp (l : List C) : (qj l).val = .tuple (l.map C.val).toArray:=by
 show Value.tuple _ = _
 rw [BJ l _ C.val]
theorem Ef {w w' : World} {l : List C} (h : ∀ c∈l,kR w w' c∧c.dB∧∀ b k,¬ c.fp b k) : kR w w' (qj l):=by
 have hm : ∀ j,j < l.length→l.getD j (.dead undef)∈l:=fun j hj=>by simp [List.getD,hj]
 refine ⟨fun Z=>⟨fun j hj=>⟨(h _ (hm j hj)).2.1,(h _ (hm j hj)).1.1 Z⟩,fun j hj b k hf=>((h _ (hm j hj)).2.2 b k hf).elim⟩,fun j hj=>(h _ (hm j hj)).1.2.1,fun b k hf=>?_⟩
 obtain ⟨j,hj,hf⟩:=hf
 exact ((h _ (hm j hj)).2.2 b k hf).elim
theorem NB {w w' : World} {g : Nat} {t : TypeId} {l : List ByteArray} (hg : w.heap.size≤g) (hb : w'.heap[g]? = some (.cells (l.map Value.string).toArray t (0,0))) (hs : ∀ s∈l,s.size≤9223372036854775807) :
  kR w w' (.row .own 1 (some (g,0,none)) l.length l.length fun i _=>.str (l.getD i ByteArray.empty)):=by
 have hm : ∀ j,j < l.length→l.getD j ByteArray.empty∈l:=fun j hj=>by simp [List.getD,hj]
 refine ⟨fun Z=>⟨Nat.le_refl _,fun i j hi hj=>⟨g,0,rfl,?_,fun h=>absurd rfl h⟩,fun i j hi hj=>⟨trivial,trivial,trivial,hs _ (hm i hi)⟩,fun _=>.inr ⟨g,0,_,t,(0,0),rfl,hb,?_,fun k _ _=>?_⟩,fun i j hi hj b k hf=>hf.elim⟩,trivial,fun b k hf=>?_⟩
 ·obtain rfl : j = 0:=by omega
  simp only [World.cell?,hb]
  simp [C.val,hi,Go.Value.oneCell']
 ·simp
 ·simp [World.frozen?,hb]
 ·obtain ⟨_,h | ⟨i,j,_,_,h⟩⟩:=hf
  ·obtain ⟨o,h⟩:=h
   have hgb:=congrArg Prod.fst (Option.some.inj h)
   have hgb : g = b:=hgb; exact hgb ▸ hg
  ·exact h.elim
theorem Q8 (l : List ByteArray) (g cap : Nat) : (C.row .own 1 (some (g,0,none)) l.length cap fun i _=>.str (l.getD i ByteArray.empty)).er = .row .own 1 (l.map fun s=>[.str s]):=by
 show X.row _ _ _ = _
 congr 1
 have:=BJ l ByteArray.empty fun s=>[X.str s]
 rw [← this]
 rfl
theorem zn {c : C} {m : Md} {z : Nat} {xs : List (List X)} (h : c.er = .row m z xs) : ∃ A len cap e,c = .row m z A len cap e∧len = xs.length∧∀ i,i < len→xs[i]? = some ((List.range z).map fun j=>(e i j).er):=by
 cases c with
 | row m' z' A len cap e =>
  simp only [C.er,X.row.injEq] at h
  obtain ⟨rfl,rfl,h⟩:=h
  refine ⟨A,len,cap,e,rfl,by rw [← h]; simp,fun i hi=>?_⟩
  rw [← h]
  simp [hi]
 | _=>simp [C.er] at h
end M
namespace M
open Go
def xQ (s : ah) : X:=.str ⟨s.toArray⟩
def BO (l : List ah) : X:=.row .own 1 (l.map eS)
def xX : List X→Option X
 | [.str s,.str c]=>if c.data.toList = [32]∧s.size≤9223372036854775807 then some (xQ (dD s.data.toList)) else none
 | _=>none
def xO : List X→Option X
 | [.str s,.str c]=>if s.size < 4294967281∧1≤c.size then some (BO (Lib.split s.data.toList c.data.toList)) else none
 | _=>none
def uO : List X→Option X
 | [.str s,.str c]=>if s.size≤9223372036854775807 then some (.au [xQ (Lib.trimPrefix s.data.toList c.data.toList),.bool (Lib.hasPrefix s.data.toList c.data.toList)]) else none
 | _=>none
def xg : List X→Option X
 | [.str s]=>if s.size≤9223372036854775807 then some (match cL s.data.toList with
  | some n=>.au [.int .i64 n,.bool true]
  | none=>.au [.int .i64 0,.bool false]) else none
 | _=>none
theorem count_nil (c : UInt8) : Lib.count [] [c] = 0:=by rw [Lib.count_one]; rfl
theorem Ro (c : UInt8) : ∀ s : ah,Lib.split s [c] = cl c s:=by
 have key : ∀ (n : Nat) (s : ah),s.length≤n→Lib.splitK [c] 0 (Lib.count s [c]) s = cl c s:=by
  intro n
  induction n with
  | zero =>
   intro s hs
   obtain rfl : s = []:=List.length_eq_zero_iff.1 (by omega)
   rw [count_nil]
   rfl
  | succ n ih =>
   intro s hs
   cases s with
   | nil=>rw [count_nil]; rfl
   | cons b s =>
    simp at hs
    have vX:=ih s (by omega)
    by_cases hb : b = c
    ·subst hb
     rw [Lib.count_cons_eq,Nat.add_comm]
     have hi : Lib.index (b :: s) [b] = 0:=Lib.index_first (i:=0) (Nat.zero_le _) (by simp [Lib.occAt]) (fun _ h=>absurd h (Nat.not_lt_zero _))
     simp only [Lib.splitK,hi,cl]
     simp [vX]
    ·rw [Lib.count_cons_ne _ _ _ hb]
     have hnext : Lib.index (b :: s) [c] = if Lib.index s [c] = -1 then -1 else Lib.index s [c] + 1:=by
      have h:=Lib.index_drop (s:=b :: s) (sub:=[c]) (i:=1) (fun j hj=>by
       obtain rfl : j = 0:=by omega
       simp [Lib.occAt,List.isPrefixOf,Ne.symm hb]) (by simp)
      simp at h
      exact h
     rw [cl,if_neg hb,← vX]
     cases hk : Lib.count s [c] with
     | zero=>simp [Lib.splitK]
     | succ k =>
      simp only [Lib.splitK,hnext]
      by_cases h1 : Lib.index s [c] = -1
      ·simp [h1]
      ·have h0 : 0≤Lib.index s [c]:=by
        have : -1≤Lib.index s [c]:=Lib.index_ge _ _
        omega
       have h2 : ¬ Lib.index s [c] + 1 = -1:=by omega
       have h3 : (Lib.index s [c] + 1).toNat = (Lib.index s [c]).toNat + 1:=by omega
       simp [h1,h2,h3]
 intro s
 exact key s.length s (Nat.le_refl _)
end M
namespace M
open Go
def cH {β : Type} (p : β→Bool) (l : List β) : Nat:=(l.takeWhile fun b=>!p b).length
theorem Fj {β : Type} {f : ag→bC} (l : List β) (st : Nat→ag) (p : β→Bool) (E : Nat→ag) {x : Nat}
  (h : ∀ i b,l[i]? = some b→i < l.length→f (st i) = if p b = true then some (.exit x,E i) else some (.normal,st (i + 1)))
  (hend : f (st l.length) = some (.exit x,E l.length)) : aE f (st 0) = some (.exit x,E (cH p l)):=by
 suffices H : ∀ (r : List β) (i : Nat),l.drop i = r→i≤l.length→aE f (st i) = some (.exit x,E (i + cH p r)) by
  have:=H l 0 rfl (Nat.zero_le _)
  rwa [Nat.zero_add] at this
 intro r
 induction r with
 | nil =>
  intro i hr hi
  have : i = l.length:=by
   have:=congrArg List.length hr
   simp at this
   omega
  subst this
  rw [iW,hend]
  rfl
 | cons b r ih =>
  intro i hr hi
  have hb : l[i]? = some b:=by
   have:=congrArg (fun t : List β=>t[0]?) hr
   simpa using this
  have hlt : i < l.length:=(List.getElem?_eq_some_iff.1 hb).1
  have hd : l.drop (i + 1) = r:=by
   have:=congrArg List.tail hr
   simpa using this
  rw [iW,h i b hb hlt]
  unfold cH
  by_cases hp : p b = true
  ·simp [hp,dc]
  ·have:=ih (i + 1) hd hlt
   simp only [hp]
   have e : i + 1 + cH p r = i + (cH p r + 1):=by omega
   rw [e] at this
   simp [hp,dc,this,cH]
theorem x7 {β : Type} (p : β→Bool) (l : List β) : cH p l≤l.length:=by
 unfold cH
 exact (List.takeWhile_sublist _).length_le
theorem Gv {β : Type} (p : β→Bool) : ∀ (l : List β) (j : Nat) (b : β),j < cH p l→l[j]? = some b→p b = false
 | [],j,b,h,_=>by simp [cH] at h
 | a :: l,j,b,h,hb=>by
  unfold cH at h
  rw [List.takeWhile_cons] at h
  by_cases hp : p a = true
  ·simp [hp] at h
  ·simp only [hp,Bool.not_false,if_true,List.length_cons] at h
   cases j with
   | zero=>simp at hb; subst hb; simpa using hp
   | succ j=>exact Gv p l j b (by unfold cH; omega) (by simpa using hb)
theorem Gu {β : Type} (p : β→Bool) : ∀ (l : List β) (b : β),l[cH p l]? = some b→p b = true
 | [],b,h=>by simp at h
 | a :: l,b,h=>by
  unfold cH at h
  rw [List.takeWhile_cons] at h
  by_cases hp : p a = true
  ·simp [hp] at h; subst h; exact hp
  ·simp only [hp,Bool.not_false,if_true,List.length_cons,List.getElem?_cons_succ] at h
   exact Gu p l b h
def fA (c : UInt8) (f : ah→List ah) (s : ah) (i : Nat) (g : List ah×Nat) (b : Option UInt8) : List ah×Nat:=match b with
 | some b=>if b = c then (g.1 ++ f ((s.take i).drop g.2),i + 1) else g
 | none=>(g.1 ++ f ((s.take i).drop g.2),i + 1)
theorem Cb (c : UInt8) : ∀ (cur rest : ah),(∀ b∈cur,b≠c)→cl c (cur ++ rest) = match cl c rest with
  | w :: ws=>(cur ++ w) :: ws
  | []=>[cur]
 | [],rest,_=>by
  cases h : cl c rest with
  | nil=>exact absurd h (Gc c rest)
  | cons w ws=>simpa using h
 | a :: cur,rest,h=>by
  rw [List.cons_append,cl,if_neg (h a (List.mem_cons_self ..)),Cb c cur rest fun b hb=>h b (List.mem_cons_of_mem _ hb)]
  cases cl c rest <;> simp
theorem Rm (c : UInt8) (cur : ah) (h : ∀ b∈cur,b≠c) : cl c cur = [cur]:=by
 have:=Cb c cur [] h
 simpa [cl] using this
theorem Cf : ∀ (p cur rest : ah),((p ++ (cur ++ rest)).take (p.length + cur.length)).drop p.length = cur
 | [],cur,rest=>by simp
 | a :: p,cur,rest=>by
  have:=Cf p cur rest
  simp only [List.length_cons,List.cons_append,show p.length + 1 + cur.length = p.length + cur.length + 1 by omega,List.take_succ_cons,List.drop_succ_cons]
  exact this
theorem Ny (c : UInt8) (f : ah→List ah) (s : ah) : foldI (fA c f s) 0 (s.map some ++ [none]) ([],0) = ((cl c s).flatMap f,s.length + 1):=by
 suffices H : ∀ (rest p cur : ah) (out : List ah),s = p ++ cur ++ rest→(∀ b∈cur,b≠c)→foldI (fA c f s) (p.length + cur.length) (rest.map some ++ [none]) (out,p.length) = (out ++ (cl c (cur ++ rest)).flatMap f,s.length + 1) by
  have:=H s [] [] [] rfl (by simp)
  simpa using this
 intro rest
 induction rest with
 | nil =>
  intro p cur out hs hc
  simp only [List.append_nil] at hs ⊢
  rw [Rm c cur hc]
  subst hs
  have e1:=Cf p cur []
  rw [List.append_nil] at e1
  simp [foldI,fA,e1]
 | cons b rest ih =>
  intro p cur out hs hc
  simp only [List.map_cons,List.cons_append,foldI]
  by_cases hb : b = c
  ·subst hb
   have e1 : (s.take (p.length + cur.length)).drop p.length = cur:=by subst hs; have:=Cf p cur (b :: rest); rwa [← List.append_assoc] at this
   have:=ih (p ++ cur ++ [b]) [] (out ++ f cur) (by simp [hs]) (by simp)
   simp only [List.length_append,List.length_cons,List.length_nil,List.nil_append] at this
   simp only [fA,if_true,e1]
   rw [show p.length + cur.length + 1 = p.length + cur.length + (0 + 1) + 0 by omega,this,Cb b cur (b :: rest) hc]
   simp [cl]
  ·have:=ih p (cur ++ [b]) out (by simp [hs]) (by
    intro x hx
    rcases List.mem_append.1 hx with hx | hx
    ·exact hc x hx
    ·rw [List.mem_singleton.1 hx]; exact hb)
   simp only [List.length_append,List.length_cons,List.length_nil] at this
   simp only [fA,hb,if_false]
   rw [show p.length + cur.length + 1 = p.length + (cur.length + (0 + 1)) by omega,this]
   simp
theorem GD (s : ah) : ep s = (cl 44 s).flatMap fun w=>if dD w≠[] then [dD w] else []:=by
 unfold ep
 induction cl 44 s with
 | nil=>rfl
 | cons w l ih =>
  simp only [List.map_cons,List.filter_cons,List.flatMap_cons,← ih]
  by_cases h : dD w = [] <;> simp [h]
@[simp] theorem VT (l : List UInt8) : l.map (fun b : UInt8=>[X.int IntKind.u8 (b.toNat : Int)]) = l.map eU:=rfl
@[simp] theorem XM (l : List UInt8) : mb (l.map eU) = some l:=Gt l
theorem Ce (c : UInt8) : ∀ s : ah,((cl c s).map List.length).sum + (cl c s).length = s.length + 1
 | []=>rfl
 | b :: s=>by
  have:=Ce c s
  unfold cl
  split
  ·simp; omega
  ·cases h : cl c s with
   | nil=>exact absurd h (Gc c s)
   | cons w ws=>rw [h] at this; simp at this ⊢; omega
theorem Ga (c : UInt8) (s : ah) : (cl c s).length≤s.length + 1:=by have:=Ce c s; omega
theorem Gb (c : UInt8) (s : ah) : ∀ w∈cl c s,w.length≤s.length:=by
 intro w hw
 have h:=Ce c s
 have h1 : w.length + 1≤((cl c s).map List.length).sum + (cl c s).length:=by
  clear h
  revert hw
  generalize cl c s = l
  intro hw
  induction l with
  | nil=>cases hw
  | cons x l ih =>
   rcases List.mem_cons.1 hw with rfl | hw
   ·simp; omega
   ·have:=ih hw; simp; omega
 omega
theorem Fk (b : UInt8) (h : 65≤b.toNat∧b.toNat≤90) : (b + 32).toNat = b.toNat + 32:=by
 rw [UInt8.toNat_add]
 have : (32 : UInt8).toNat = 32:=rfl
 omega
theorem GG {n : Int} (h1 : 0≤n) (h2 : n < 256) : IntKind.u8.wrap n = n:=GH h1 h2
end M
namespace M
theorem K9 {β γ : Type} (φ : β→List γ) (hφ : ∀ b,(φ b).length≤1) (l : List β) (i : Nat) : ((l.take i).flatMap φ).length≤i:=by
 induction l generalizing i with
 | nil=>simp
 | cons b l ih =>
  cases i with
  | zero=>simp
  | succ i =>
   have:=ih i
   have:=hφ b
   simp only [List.take_succ_cons,List.flatMap_cons,List.length_append]
   omega
end M
namespace M
@[simp] theorem UY (i : Nat) : ((i : Int) < 0) = False:=by simp
end M
namespace M
def fF {α : Type} (f : α→α) (l : List α) (i : Nat) : List α:=(l.take i).map f ++ l.drop i
@[simp] theorem Wz {α : Type} (f : α→α) (l : List α) (i : Nat) : (fF f l i).length = l.length:=by simp [fF]; omega
theorem Po {α : Type} (f : α→α) (l : List α) : fF f l 0 = l:=by simp [fF]
theorem Pj {α : Type} (f : α→α) (l : List α) : fF f l l.length = l.map f:=by simp [fF]
theorem Pk {α : Type} (f : α→α) (l : List α) (i : Nat) (h : i < l.length) : (fF f l i)[i]? = some l[i]:=by
 unfold fF
 rw [List.getElem?_append_right (by simp; omega)]
 have : i - ((l.take i).map f).length = 0:=by simp; omega
 rw [this]
 simp [h]
theorem Pm {α : Type} (f : α→α) (l : List α) (i : Nat) (h : i < l.length) (h' : i < (fF f l i).length) : (fF f l i)[i] = l[i]:=by
 have:=Pk f l i h
 rw [List.getElem?_eq_getElem h'] at this
 exact Option.some.inj this
theorem Pn {α : Type} (f : α→α) (l : List α) (i : Nat) (h : i < l.length) : (fF f l i).set i (f l[i]) = fF f l (i + 1):=by
 unfold fF
 rw [List.set_append_right _ _ (by simp; omega),List.drop_eq_getElem_cons h]
 have : i - ((l.take i).map f).length = 0:=by simp; omega
 rw [this,List.take_succ_eq_append_getElem h]
 simp only [List.set_cons_zero,List.map_append,List.map_cons,List.map_nil,List.append_assoc,List.cons_append,List.nil_append]
end M
namespace M
@[simp] theorem Pr (m : Md) : ∀ (i : Nat) (l : List (List X)),X.bk m (l.take i) = (X.bk m l).take i
 | 0,l=>by simp [X.bk]
 | i + 1,[]=>by simp [X.bk]
 | i + 1,a :: l=>by simp [X.bk,Pr m i l]
@[simp] theorem Pq (m : Md) : ∀ (i : Nat) (l : List (List X)),X.bk m (l.drop i) = (X.bk m l).drop i
 | 0,l=>by simp
 | i + 1,[]=>by simp [X.bk]
 | i + 1,a :: l=>by simp [X.bk,Pq m i l]
end M
namespace M
open Go
abbrev xd : ah:=[99,111,110,116,101,110,116,45,108,101,110,103,116,104]
abbrev ja : ah:=[99,97,99,104,101,45,99,111,110,116,114,111,108]
abbrev fU : ah:=[118,97,114,121]
theorem x9 {l : List ah} {a : ah} (h : a∈l) : a.length≤wL wS l:=dF (w:=wS) h
theorem Ct {l : List aK} {a : aK} (h : a∈l) : a.name.length + a.value.length≤wL aJ l:=dF (w:=aJ) h
def fK (fs : List aK) (n : ah) : Option (Nat×aK):=cX (fun f=>decide (f.name = n)) 0 fs
def fX (o : Option (Nat×aK)) : Int:=o.elim (-1) fun x=>(x.1 : Int)
def di (fs : List aK) (n : ah) : Option ah:=(fK fs n).map fun x=>x.2.value
theorem Iz {fs : List aK} {n : ah} {i : Nat} {f : aK} (h : fK fs n = some (i,f)) : ∃ hi : i < fs.length,fs[i] = f∧f.name = n:=by
 obtain ⟨_,h2,h3⟩:=oA h
 simp at h2 h3
 obtain ⟨hi,e⟩:=List.getElem?_eq_some_iff.1 h2
 exact ⟨hi,e,h3⟩
theorem qQ (fs : List aK) (n : ah) : ((di fs n).getD []).length≤wL aJ fs:=by
 unfold di
 cases h : fK fs n with
 | none=>simp
 | some x =>
  obtain ⟨i,f⟩:=x
  obtain ⟨hi,rfl,_⟩:=Iz h
  have:=Ct (List.getElem_mem hi)
  simp
  omega
def fO (fs : List aK) (x : aK×Nat) : Bool:=ek x.1.name && gx x.1.value && decide (fX (fK fs x.1.name) = x.2) && !decide (x.1.name = xd)
def jX (fs : List aK) : Bool:=aF (fO fs) fs.zipIdx && decide ((fs.length : Int)≤8)
def nE (r : dh) : Bool:=decide (100≤r.status∧r.status≤599) && jX r.fields && decide ((r.body.length : Int)≤120)
def jg (q : Rq) : Bool:=decide (1≤q.method∧q.method≤4) && fV q.path && jX q.fields && decide ((q.body.length : Int)≤120)
def jO (fs : List aK) : List ah:=(ep ((di fs fU).getD [])).map br
def Bx (l : List ah) : Bool:=aF ek l && decide ((l.length : Int)≤4)
def jb (o : Ob) : Bool:=nE o.resp && fV o.path && decide (0≤o.t∧o.t≤1000000) && Bx o.names && decide (o.names = jO o.resp.fields) && decide (o.values.length = o.names.length) && aF gx o.values
def jm (b : Bn) : Bool:=decide (0≤b.t∧b.t≤1000000) && (if b.kind = 1∨b.kind = 2 then fV b.a && decide (b.b = []) else if b.kind = 3 then ek b.a && gx b.b else false)
def nC (w : Wr) : Bool:=decide (0≤w.at_∧w.at_≤19)
def nB (d : eu) : Bool:=aF nC d.pending && decide ((d.cells.length : Int) = 20) && decide ((d.pending.length : Int)≤16)
def je (l : List Kp) (i : Nat) : Int:=if i = 0 then 0 else (l[i - 1]?.map fun k=>k.seq).getD 0
def mZ (S : Int) (l : List Kp) (x : Kp×Nat) : Bool:=jb x.1.obj && decide (5≤x.1.at_∧x.1.at_≤19) && aF (fun y=>decide ¬ y.at_ = x.1.at_) (l.take x.2) && decide (je l x.2 < x.1.seq) && decide (x.1.seq < S)
def gL (S : Int) (l : List Kp) (x : Kp×Nat) : Bool:=jb x.1.obj && decide (5≤x.1.at_∧x.1.at_≤19) && decide (1≤x.1.seq∧x.1.seq≤S - 1) && decide (x.2 = 0∨je l x.2 < x.1.seq) && aF (fun y=>decide ¬ y.at_ = x.1.at_) (l.take x.2)
def s8 (S : Int) (l : List Kp) : Bool:=aF (mZ S l) l.zipIdx
theorem BH (l : List Kp) (i : Nat) (h : i < l.length) : je l (i + 1) = l[i].seq:=by simp [je,h]
theorem Pg (S : Int) (l : List Kp) : aF (gL S l) l.zipIdx = s8 S l:=by
 unfold s8
 rw [Bool.eq_iff_iff,iF,iF]
 have hm : ∀ x∈l.zipIdx,∃ h : x.2 < l.length,x.1 = l[x.2]:=fun x hx=>by
  obtain ⟨i,hi,rfl⟩:=List.getElem_of_mem hx
  simp at hi
  exact ⟨by simpa using hi,by simp⟩
 have hz : ∀ i (h : i < l.length),(l[i],i)∈l.zipIdx:=fun i h=>by
  have : (l.zipIdx)[i]'(by simpa using h) = (l[i],i):=by simp
  rw [← this]; exact List.getElem_mem _
 constructor
 ·intro h x hx
  have h1:=h x hx
  simp only [gL,mZ,Bool.and_eq_true,decide_eq_true_eq] at h1 ⊢
  obtain ⟨⟨⟨⟨a,b⟩,c⟩,d⟩,e⟩:=h1
  refine ⟨⟨⟨⟨a,b⟩,e⟩,?_⟩,by omega⟩
  rcases d with d | d
  ·rw [d]
   have : je l 0 = 0:=rfl
   omega
  ·exact d
 ·intro h
  have pos : ∀ i (hi : i < l.length),1≤l[i].seq:=by
   intro i
   induction i with
   | zero =>
    intro hi
    have h1:=h _ (hz 0 hi)
    simp only [mZ,Bool.and_eq_true,decide_eq_true_eq] at h1
    have : je l 0 = 0:=rfl
    omega
   | succ i ih =>
    intro hi
    have h1:=h _ (hz (i + 1) hi)
    simp only [mZ,Bool.and_eq_true,decide_eq_true_eq] at h1
    have h2:=BH l i (by omega)
    have h3:=ih (by omega)
    omega
  intro x hx
  have h1:=h x hx
  obtain ⟨hl,e⟩:=hm x hx
  have h2:=pos x.2 hl
  rw [← e] at h2
  simp only [gL,mZ,Bool.and_eq_true,decide_eq_true_eq] at h1 ⊢
  obtain ⟨⟨⟨⟨a,b⟩,c⟩,d⟩,f⟩:=h1
  exact ⟨⟨⟨⟨a,b⟩,by omega⟩,.inr d⟩,c⟩
theorem D0 {β : Type} (p : β→Bool) : ∀ (l : List β) (k : Nat),(cX p k l).isSome = !aF (fun b=>!p b) l
 | [],_=>rfl
 | b :: l,k=>by
  unfold cX aF
  by_cases h : p b = true
  ·simp [h]
  ·have:=D0 p l (k + 1)
   unfold aF at this
   simp [h,this]
theorem GB {l : List Kp} {k : Kp} (h : k∈l) : bT k.obj≤wL bx l:=dF (w:=bx) h
theorem GA {l : List Bn} {b : Bn} (h : b∈l) : bl b≤wL bl l:=dF (w:=bl) h
def nQ (s : Sh) : Bool:=nB s.bz && decide ((s.aX.length : Int)≤5) && decide (5≤s.next∧s.next≤19) && decide (1≤s.seq∧s.seq≤100000) && aF jm s.aX && s8 s.seq s.aC
end M
namespace M
open Go
def dA (_ : Int) (k : Int) : Int:=k
def cK (_ : ah) (k : Int) : ah:=sS k
def Fp (_ : Bool) (k : Int) : Bool:=decide (k.tmod 3 = 0)
def aN {α : Type} (_ : α) : Nat:=1
def cE {α : Type} (mk : α→Int→α) (n : α→Nat) : List α→Int→List α
 | [],_=>[]
 | a :: l,k=>mk a k :: cE mk n l (k + (n a : Nat))
def nL {α : Type} (n : α→Nat) (l : List α) : Nat:=(l.map n).sum
@[simp] theorem Px {α : Type} (mk : α→Int→α) (n : α→Nat) : ∀ (l : List α) (k : Int),(cE mk n l k).length = l.length
 | [],_=>rfl
 | a :: l,k=>by simp [cE,Px mk n l]
def jD (a : aK) (k : Int) : aK:=⟨cK a.name (k),cK a.value (k + 1)⟩
def aM (a : aK) : Nat:=2
def PD (a : Wr) (k : Int) : Wr:=⟨dA a.at_ (k),cK a.text (k + 1)⟩
def Dr (a : Wr) : Nat:=2
def PA (a : Kp) (k : Int) : Kp:=⟨⟨cK a.obj.path (k),cE cK aN a.obj.names (k + 1),cE cK aN a.obj.values (k + 1 + (nL aN a.obj.names : Nat)),⟨dA a.obj.resp.status (k + 1 + (nL aN a.obj.names : Nat) + (nL aN a.obj.values : Nat)),cE jD aM a.obj.resp.fields (k + 1 + (nL aN a.obj.names : Nat) + (nL aN a.obj.values : Nat) + 1),cK a.obj.resp.body (k + 1 + (nL aN a.obj.names : Nat) + (nL aN a.obj.values : Nat) + 1 + (nL aM a.obj.resp.fields : Nat))⟩,dA a.obj.t (k + 1 + (nL aN a.obj.names : Nat) + (nL aN a.obj.values : Nat) + 1 + (nL aM a.obj.resp.fields : Nat) + 1)⟩,dA a.at_ (k + 1 + (nL aN a.obj.names : Nat) + (nL aN a.obj.values : Nat) + 1 + (nL aM a.obj.resp.fields : Nat) + 1 + 1),dA a.seq (k + 1 + (nL aN a.obj.names : Nat) + (nL aN a.obj.values : Nat) + 1 + (nL aM a.obj.resp.fields : Nat) + 1 + 1 + 1)⟩
def y6 (a : Kp) : Nat:=6 + nL aN a.obj.names + nL aN a.obj.values + nL aM a.obj.resp.fields
def Py (a : Bn) (k : Int) : Bn:=⟨dA a.kind (k),cK a.a (k + 1),cK a.b (k + 1 + 1),dA a.t (k + 1 + 1 + 1)⟩
def Dp (a : Bn) : Nat:=4
def Pz (a : Fl) (k : Int) : Fl:=⟨⟨dA a.q.method (k),cK a.q.path (k + 1),cE jD aM a.q.fields (k + 1 + 1),cK a.q.body (k + 1 + 1 + (nL aM a.q.fields : Nat))⟩,cE dA aN a.who (k + 1 + 1 + (nL aM a.q.fields : Nat) + 1),⟨cK a.old.path (k + 1 + 1 + (nL aM a.q.fields : Nat) + 1 + (nL aN a.who : Nat)),cE cK aN a.old.names (k + 1 + 1 + (nL aM a.q.fields : Nat) + 1 + (nL aN a.who : Nat) + 1),cE cK aN a.old.values (k + 1 + 1 + (nL aM a.q.fields : Nat) + 1 + (nL aN a.who : Nat) + 1 + (nL aN a.old.names : Nat)),⟨dA a.old.resp.status (k + 1 + 1 + (nL aM a.q.fields : Nat) + 1 + (nL aN a.who : Nat) + 1 + (nL aN a.old.names : Nat) + (nL aN a.old.values : Nat)),cE jD aM a.old.resp.fields (k + 1 + 1 + (nL aM a.q.fields : Nat) + 1 + (nL aN a.who : Nat) + 1 + (nL aN a.old.names : Nat) + (nL aN a.old.values : Nat) + 1),cK a.old.resp.body (k + 1 + 1 + (nL aM a.q.fields : Nat) + 1 + (nL aN a.who : Nat) + 1 + (nL aN a.old.names : Nat) + (nL aN a.old.values : Nat) + 1 + (nL aM a.old.resp.fields : Nat))⟩,dA a.old.t (k + 1 + 1 + (nL aM a.q.fields : Nat) + 1 + (nL aN a.who : Nat) + 1 + (nL aN a.old.names : Nat) + (nL aN a.old.values : Nat) + 1 + (nL aM a.old.resp.fields : Nat) + 1)⟩,Fp a.ju (k + 1 + 1 + (nL aM a.q.fields : Nat) + 1 + (nL aN a.who : Nat) + 1 + (nL aN a.old.names : Nat) + (nL aN a.old.values : Nat) + 1 + (nL aM a.old.resp.fields : Nat) + 1 + 1)⟩
def yZ (a : Fl) : Nat:=8 + nL aM a.q.fields + nL aN a.who + nL aN a.old.names + nL aN a.old.values + nL aM a.old.resp.fields
def PC (a : Se) (k : Int) : Se:=⟨⟨dA a.q.method (k),cK a.q.path (k + 1),cE jD aM a.q.fields (k + 1 + 1),cK a.q.body (k + 1 + 1 + (nL aM a.q.fields : Nat))⟩,⟨dA a.resp.status (k + 1 + 1 + (nL aM a.q.fields : Nat) + 1),cE jD aM a.resp.fields (k + 1 + 1 + (nL aM a.q.fields : Nat) + 1 + 1),cK a.resp.body (k + 1 + 1 + (nL aM a.q.fields : Nat) + 1 + 1 + (nL aM a.resp.fields : Nat))⟩,dA a.t (k + 1 + 1 + (nL aM a.q.fields : Nat) + 1 + 1 + (nL aM a.resp.fields : Nat) + 1)⟩
def Dq (a : Se) : Nat:=6 + nL aM a.q.fields + nL aM a.resp.fields
def PB (a : Rp) (k : Int) : Rp:=⟨dA a.client (k),⟨dA a.q.method (k + 1),cK a.q.path (k + 1 + 1),cE jD aM a.q.fields (k + 1 + 1 + 1),cK a.q.body (k + 1 + 1 + 1 + (nL aM a.q.fields : Nat))⟩,⟨dA a.resp.status (k + 1 + 1 + 1 + (nL aM a.q.fields : Nat) + 1),cE jD aM a.resp.fields (k + 1 + 1 + 1 + (nL aM a.q.fields : Nat) + 1 + 1),cK a.resp.body (k + 1 + 1 + 1 + (nL aM a.q.fields : Nat) + 1 + 1 + (nL aM a.resp.fields : Nat))⟩,dA a.kind (k + 1 + 1 + 1 + (nL aM a.q.fields : Nat) + 1 + 1 + (nL aM a.resp.fields : Nat) + 1),dA a.t (k + 1 + 1 + 1 + (nL aM a.q.fields : Nat) + 1 + 1 + (nL aM a.resp.fields : Nat) + 1 + 1),⟨cK a.obj.path (k + 1 + 1 + 1 + (nL aM a.q.fields : Nat) + 1 + 1 + (nL aM a.resp.fields : Nat) + 1 + 1 + 1),cE cK aN a.obj.names (k + 1 + 1 + 1 + (nL aM a.q.fields : Nat) + 1 + 1 + (nL aM a.resp.fields : Nat) + 1 + 1 + 1 + 1),cE cK aN a.obj.values (k + 1 + 1 + 1 + (nL aM a.q.fields : Nat) + 1 + 1 + (nL aM a.resp.fields : Nat) + 1 + 1 + 1 + 1 + (nL aN a.obj.names : Nat)),⟨dA a.obj.resp.status (k + 1 + 1 + 1 + (nL aM a.q.fields : Nat) + 1 + 1 + (nL aM a.resp.fields : Nat) + 1 + 1 + 1 + 1 + (nL aN a.obj.names : Nat) + (nL aN a.obj.values : Nat)),cE jD aM a.obj.resp.fields (k + 1 + 1 + 1 + (nL aM a.q.fields : Nat) + 1 + 1 + (nL aM a.resp.fields : Nat) + 1 + 1 + 1 + 1 + (nL aN a.obj.names : Nat) + (nL aN a.obj.values : Nat) + 1),cK a.obj.resp.body (k + 1 + 1 + 1 + (nL aM a.q.fields : Nat) + 1 + 1 + (nL aM a.resp.fields : Nat) + 1 + 1 + 1 + 1 + (nL aN a.obj.names : Nat) + (nL aN a.obj.values : Nat) + 1 + (nL aM a.obj.resp.fields : Nat))⟩,dA a.obj.t (k + 1 + 1 + 1 + (nL aM a.q.fields : Nat) + 1 + 1 + (nL aM a.resp.fields : Nat) + 1 + 1 + 1 + 1 + (nL aN a.obj.names : Nat) + (nL aN a.obj.values : Nat) + 1 + (nL aM a.obj.resp.fields : Nat) + 1)⟩,dA a.aX (k + 1 + 1 + 1 + (nL aM a.q.fields : Nat) + 1 + 1 + (nL aM a.resp.fields : Nat) + 1 + 1 + 1 + 1 + (nL aN a.obj.names : Nat) + (nL aN a.obj.values : Nat) + 1 + (nL aM a.obj.resp.fields : Nat) + 1 + 1)⟩
def Kq (a : Rp) : Nat:=13 + nL aM a.q.fields + nL aM a.resp.fields + nL aN a.obj.names + nL aN a.obj.values + nL aM a.obj.resp.fields
def uc (a : Rq) (k : Int) : Rq:=⟨a.method,a.path,cE jD aM a.fields (k),a.body⟩
@[simp] theorem XF (a : Rq) (k : Int) : (uc a k).method = a.method:=rfl
@[simp] theorem XG (a : Rq) (k : Int) : (uc a k).path = a.path:=rfl
@[simp] theorem XE (a : Rq) (k : Int) : (uc a k).body = a.body:=rfl
def Ck (a : Rq) : Nat:=nL aM a.fields
def qg (a : dh) (k : Int) : dh:=⟨a.status,cE jD aM a.fields (k),a.body⟩
@[simp] theorem XI (a : dh) (k : Int) : (qg a k).status = a.status:=rfl
@[simp] theorem XH (a : dh) (k : Int) : (qg a k).body = a.body:=rfl
def RF (a : dh) : Nat:=nL aM a.fields
def Ci (a : Ob) (k : Int) : Ob:=⟨a.path,cE cK aN a.names (k),cE cK aN a.values (k + (nL aN a.names : Nat)),qg a.resp (k + (nL aN a.names : Nat) + (nL aN a.values : Nat)),a.t⟩
@[simp] theorem XB (a : Ob) (k : Int) : (Ci a k).path = a.path:=rfl
@[simp] theorem XC (a : Ob) (k : Int) : (Ci a k).resp = qg a.resp (k + (nL aN a.names : Nat) + (nL aN a.values : Nat)):=rfl
@[simp] theorem XD (a : Ob) (k : Int) : (Ci a k).t = a.t:=rfl
def Gm (a : eu) (k : Int) : eu:=⟨cE cK aN a.cells (k),cE PD Dr a.pending (k + (nL aN a.cells : Nat))⟩
def Cj (a : eu) : Nat:=nL aN a.cells + nL Dr a.pending
def ud (a : Sh) (k : Int) : Sh:=⟨Gm a.bz (k),cE PA y6 a.aC (k + (Cj a.bz : Nat)),cE Py Dp a.aX (k + (Cj a.bz : Nat) + (nL y6 a.aC : Nat)),a.next,a.seq⟩
@[simp] theorem XJ (a : Sh) (k : Int) : (ud a k).bz = Gm a.bz (k):=rfl
@[simp] theorem XK (a : Sh) (k : Int) : (ud a k).next = a.next:=rfl
@[simp] theorem XL (a : Sh) (k : Int) : (ud a k).seq = a.seq:=rfl
def Cl (a : Sh) : Nat:=Cj a.bz + nL y6 a.aC + nL Dp a.aX
def Gl (a : Ca) (k : Int) : Ca:=⟨ud a.ck (k),cE Pz yZ a.aH (k + (Cl a.ck : Nat)),a.now,cE PC Dq a.seen (k + (Cl a.ck : Nat) + (nL yZ a.aH : Nat)),cE PB Kq a.sent (k + (Cl a.ck : Nat) + (nL yZ a.aH : Nat) + (nL Dq a.seen : Nat))⟩
@[simp] theorem Xu (a : Ca) (k : Int) : (Gl a k).ck = ud a.ck (k):=rfl
@[simp] theorem Xt (a : Ca) (k : Int) : (Gl a k).now = a.now:=rfl
def qd (a : De) (k : Int) : De:=⟨a.kind,a.client,uc a.q (k),a.a,qg a.resp (k + (Ck a.q : Nat)),a.kZ,cE Fp aN a.keep (k + (Ck a.q : Nat) + (RF a.resp : Nat))⟩
@[simp] theorem Xy (a : De) (k : Int) : (qd a k).kind = a.kind:=rfl
@[simp] theorem Xx (a : De) (k : Int) : (qd a k).client = a.client:=rfl
@[simp] theorem Xz (a : De) (k : Int) : (qd a k).q = uc a.q (k):=rfl
@[simp] theorem Xv (a : De) (k : Int) : (qd a k).a = a.a:=rfl
@[simp] theorem XA (a : De) (k : Int) : (qd a k).resp = qg a.resp (k + (Ck a.q : Nat)):=rfl
@[simp] theorem Xw (a : De) (k : Int) : (qd a k).kZ = a.kZ:=rfl
end M
namespace M
open Go Go.RowKit
theorem kT.cell [B : Bs] {w : World} (h : kT w) {b k : Nat} {v : Value} (hc : B.W0.cell? ⟨b,k,none⟩ = some v) : w.cell? ⟨b,k,none⟩ = some v:=by
 have hb : b < B.W0.heap.size:=by
  rcases Nat.lt_or_ge b B.W0.heap.size with h | h
  ·exact h
  ·simp [World.cell?,Array.getElem?_eq_none h] at hc
 have e:=h b hb
 simpa [World.cell?,e] using hc
theorem IA (w : World) : Below w.heap.size w w.drew:=(Below.refl _ _).drew
theorem Cq {cs : List C} {s c : ByteArray} (h : cs.map C.er = [.str s,.str c]) : cs = [.str s,.str c]:=by
 obtain ⟨a,r,rfl,h1,h2⟩:=map_cons h
 obtain ⟨b,r',rfl,h3,h4⟩:=map_cons h2
 obtain rfl:=map_nil h4
 rw [zo h1,zo h3]
theorem P8 {cs : List C} {s : ByteArray} (h : cs.map C.er = [.str s]) : cs = [.str s]:=by
 obtain ⟨a,r,rfl,h1,h2⟩:=map_cons h
 obtain rfl:=map_nil h2
 rw [zo h1]
theorem T9 [Bs] {P : Program} {f0 : FuncId} (hc : ∀ (s : ByteArray) (c : UInt8),c.toNat < 128→∀ w,s.size≤9223372036854775807 →
  Calls P f0 #[.string s,.string ⟨#[c]⟩] w fun e w'=>e = .returned (.string ⟨(Lib.trimB s.data.toList c).toArray⟩)∧(w' = w∨w' = w.drew)) : (fG f0 xX).Sound P :=
 xb fun xs r hg w zl zb cs hx hA hs=>by
  unfold xX at hg
  split at hg
  ·rename_i s c
   split at hg
   ·rename_i hh
    cases hg
    obtain rfl:=Cq hx
    have e : c = ⟨#[32]⟩:=by
     have:=congrArg List.toArray hh.1
     simp at this
     cases c; simp at this; rw [this]
    subst e
    refine (hc s 32 (by decide) w hh.2).mono fun e w' ⟨he,hw⟩=>⟨.str ⟨(dD s.data.toList).toArray⟩,he,rfl,?_,Ee ?_⟩
    ·rcases hw with rfl | rfl
     ·exact Below.refl _ _
     ·exact IA _
    ·have:=Gq s.data.toList
     have h2:=hh.2
     simp only [ByteArray.size] at h2 ⊢
     simp at this ⊢
     omega
   ·cases hg
  ·cases hg
theorem Rn [B : Bs] {P : Program} {f0 : FuncId} {g1 : Nat} {t9 : TypeId} (hm : ∃ m,B.W0.cell? ⟨g1,0,none⟩ = some (.int .i64 m)) (hc : ∀ (s sep : ByteArray) (m : Int) (w : World),s.size < 4294967281→w.cell? ⟨g1,0,none⟩ = some (.int .i64 m)→1≤sep.size →
  Calls P f0 #[.string s,.string sep] w fun e w'=>e = .returned (.slice (some ⟨w.heap.size,0,none⟩) (Lib.countB s sep + 1) (Lib.countB s sep + 1))∧w' = w.alloc (.cells ((Lib.splitB sep 0 (Lib.countB s sep) s).map Value.string).toArray t9)) : (fG f0 xO).Sound P :=
 xb fun xs r hg w zl zb cs hx hA hs=>by
  unfold xO at hg
  split at hg
  ·rename_i s c
   split at hg
   ·rename_i hh
    cases hg
    obtain rfl:=Cq hx
    obtain ⟨m,hm⟩:=hm
    have hlen:=Lib.splitB_all c hh.2 0 _ s rfl
    have EE:=Lib.splitB_data c 0 (Lib.countB s c) s
    refine (hc s c m w hh.1 (hs.cell hm) hh.2).mono fun e w' ⟨he,hw⟩=>?_
    subst hw
    refine ⟨.row .own 1 (some (w.heap.size,0,none)) (Lib.splitB c 0 (Lib.countB s c) s).length (Lib.splitB c 0 (Lib.countB s c) s).length fun i _=>.str ((Lib.splitB c 0 (Lib.countB s c) s).getD i ByteArray.empty),?_,?_,?_,?_⟩
    ·rw [he,hlen]; rfl
    ·rw [Q8]
     unfold BO
     congr 1
     have : Lib.split s.data.toList c.data.toList = (Lib.splitB c 0 (Lib.countB s c) s).map (·.data.toList):=EE.symm
     rw [this,List.map_map]
     refine List.map_congr_left fun x _=>?_
     simp
    ·exact (Below.refl _ _).alloc (Nat.le_refl _) _
    ·refine NB (Nat.le_refl _) (t:=t9) ?_ fun x hx=>?_
     ·show (w.heap.push _)[w.heap.size]? = _
      simp
     ·have h1 : x.data.toList∈Lib.splitK c.data.toList 0 (Lib.countB s c) s.data.toList:=by rw [← EE]; exact List.mem_map_of_mem hx
      have h2 : ∀ (k : Nat) (l : List UInt8),∀ y∈Lib.splitK c.data.toList 0 k l,y.length≤l.length:=by
       intro k
       induction k with
       | zero=>intro l y hy; simp [Lib.splitK] at hy; rw [hy]; exact Nat.le_refl _
       | succ k ih =>
        intro l y hy
        unfold Lib.splitK at hy
        split at hy
        ·rw [List.mem_singleton.1 hy]; exact Nat.le_refl _
        ·rcases List.mem_cons.1 hy with rfl | hy
         ·simp
          omega
         ·have:=ih _ _ hy; simp at this; omega
      have h3:=h2 _ _ _ h1
      have h4:=hh.1
      have e1 : s.size = s.data.toList.length:=Lib.size_eq _
      have e2 : x.size = x.data.toList.length:=Lib.size_eq _
      omega
   ·cases hg
  ·cases hg
theorem PS [B : Bs] {P : Program} {f0 : FuncId} (hc : ∀ (s : ByteArray) (w : World),kT w→s.size≤9223372036854775807 →
  Calls P f0 #[.string s] w fun e w'=>e = .returned (.tuple #[.int .i64 (((cL s.data.toList).getD 0 : Nat) : Int),.bool (cL s.data.toList).isSome])∧Below w.heap.size w w') : (fG f0 xg).Sound P :=
 xb fun xs r hg w zl zb cs hx hA hs=>by
  unfold xg at hg
  split at hg
  ·rename_i s
   split at hg
   ·rename_i hh
    cases hg
    obtain rfl:=P8 hx
    refine (hc s w hs hh).mono fun e w' ⟨he,hw⟩=>?_
    refine ⟨qj [.int .i64 (((cL s.data.toList).getD 0 : Nat) : Int),.bool (cL s.data.toList).isSome],?_,?_,hw,Ef fun x hx=>?_⟩
    ·rw [he,Cp]; rfl
    ·rw [Co]; cases cL s.data.toList <;> rfl
    ·simp only [List.mem_cons,List.not_mem_nil,or_false] at hx
     rcases hx with rfl | rfl
     ·exact ⟨NA,trivial,fun _ _ h=>h⟩
     ·exact ⟨Ed,trivial,fun _ _ h=>h⟩
   ·cases hg
  ·cases hg
end M
namespace Go.Proofs
open Go.RowKit
theorem RB {P : Program} {w w' : World} {n : String} {k : IntKind} {zs : List Int} (h : Lib.TabIs P w n k zs) (hw : Below w.heap.size w w') : Lib.TabIs P w' n k zs:=by
 unfold Lib.TabIs World.var? at h ⊢
 cases hg : P.globalNamed n with
 | none=>rw [hg] at h; cases h
 | some g =>
  rw [hg] at h
  simp only [Option.bind_some] at h ⊢
  have hlt : g < w.heap.size:=by
   rcases Nat.lt_or_ge g w.heap.size with h' | h'
   ·exact h'
   ·rw [Array.getElem?_eq_none h'] at h; cases h
  rw [hw.block g hlt]
  exact h
theorem Gy [B : M.Bs] {P : Program} {w : World} {n : String} {cs : Array Value} (h : B.W0.var? P n = some cs) (hw : M.kT w) : w.var? P n = some cs:=by
 unfold World.var? at h ⊢
 cases hg : P.globalNamed n with
 | none=>rw [hg] at h; cases h
 | some g =>
  rw [hg] at h
  simp only [Option.bind_some] at h ⊢
  have hlt : g < B.W0.heap.size:=by
   rcases Nat.lt_or_ge g B.W0.heap.size with h' | h'
   ·exact h'
   ·rw [Array.getElem?_eq_none h'] at h; cases h
  rw [hw g hlt]
  exact h
theorem NI (w : World) (k : Nat) (os : Array Obj) : Below w.heap.size w (Sort.grow (w.drewN k) os) :=
 ⟨rfl,rfl,rfl,by simp [Sort.grow,World.drewN],fun b hb=>by show (w.heap ++ os)[b]? = w.heap[b]?; exact Array.getElem?_append_left hb⟩
def jE (v : Int) (l : List UInt8) : Bool:=decide (0≤v∧v≤1000000∧Lib.itoa v = l)
def pK (v : Int) (l : List UInt8) : Int:=if jE v l = true then v else 0
theorem PO {P : Program} {f a : FuncId} {s : ByteArray} {w : World} (hmax : s.size≤9223372036854775807)
  (Om : 7 < s.size→Calls P f #[.string s] w fun e w'=>e = .returned (.tuple #[.int .i64 0,.bool false])∧w' = w)
  (hok : ¬ 7 < s.size→∀ v,Lib.atoiAll s.data.toList = .ok v→Calls P f #[.string s] w fun e w'=>e = .returned (.tuple #[.int .i64 (pK v s.data.toList),.bool (jE v s.data.toList)])∧Below w.heap.size w w')
  (NX : ¬ 7 < s.size→(∀ v,Lib.atoiAll s.data.toList≠.ok v)→Calls P f #[.string s] w fun e w'=>e = .returned (.tuple #[.int .i64 0,.bool false])∧Below w.heap.size w w') :
  Calls P f #[.string s] w fun e w'=>e = .returned (.tuple #[.int .i64 (((M.cL s.data.toList).getD 0 : Nat) : Int),.bool (M.cL s.data.toList).isSome])∧Below w.heap.size w w':=by
 have hl : s.size = s.data.toList.length:=Lib.size_eq _
 by_cases h : 7 < s.size
 ·rw [M.Fw _ (by omega)]
  exact (Om h).mono fun e w' ⟨he,hw⟩=>⟨he,hw ▸ Below.refl _ _⟩
 by_cases hv : ∃ v,Lib.atoiAll s.data.toList = .ok v
 ·obtain ⟨v,hv⟩:=hv
  rw [← M.PT _ _ hv]
  refine (hok h v hv).mono fun e w' ⟨he,hw⟩=>⟨?_,hw⟩
  rw [he]
  by_cases hb : jE v s.data.toList = true
  ·have hb':=hb
   unfold jE at hb'
   rw [decide_eq_true_eq] at hb'
   rw [pK,if_pos hb,hb,if_pos hb']
   simp; omega
  ·have hb':=hb
   unfold jE at hb'
   rw [decide_eq_true_eq] at hb'
   rw [pK,if_neg hb,if_neg hb']
   simp [hb]
 ·have cU : ∀ v,Lib.atoiAll s.data.toList≠.ok v:=fun v e=>hv ⟨v,e⟩
  rw [M.PV _ cU]
  exact NX h cU
theorem Xi {H : Type} {enc : TypeId×Value→H} {a : Assume} {C : Checked} {os : Os} {f : FuncId} {fn : Func} {s : ChangeSpec} {conds : List PathCond} {apart fresh handsOn again : Bool} {X : World→Array Value→Prop}
  (hX : ∀ (w w' : World) (args : Array Value),w.heap = w'.heap→X w args→X w' args)
  (own : ownKnob C.prog.godebug = none) (started : os.Started) (noInit : C.prog.inits.idxOf? f = none) (hfn : C.prog.funcs[f]? = some fn)
  (witness : ∃ (w : World) (tape : Tape) (i : Input),w.os = os∧(w.forCall tape i).Shaped C.prog∧i.vars = []∧Input.okWide C.prog (w.forCall tape i) .any w.heap.size f i ∧
   ((s.pre enc C.prog fn conds apart (w.forCall tape i).memory i.args∧X (w.forCall tape i).memory i.args)∧sizedMet enc C.prog fn (OpenSpec.ofChange s) apart (w.forCall tape i).memory i.args)∧a.holds C.prog (lone (Frame.enter C.prog f i.args .normal) [] (w.forCall tape i)))
  (contract : ∀ (W : World) (base : Nat) (args : Array Value) (ds gs : List (DataW H)) (before : List MemPlace),
   (∀ (j : Nat) t v,fn.params[j]? = some t→args[j]? = some v→Value.okWide C.prog W .any base t v) →
   DataW.Whole enc C.prog fn.params.toList s.vars apart W args.toList ds gs before →
   conds.all (PathCond.test C.prog ⟨fn.params.toList,ds,s.plain.varTypes C.prog,gs⟩) = true →
   (DataW.weightsEach C.prog (fn.params.toList ++ s.plain.varTypes C.prog) (ds ++ gs)).all (·≤reachBytes) = true→X W args →
   W.ShapedOpen C.prog →
   a.holds C.prog (lone (Frame.enter C.prog f args .normal) [] W) →
   Calls C.prog f args W fun e W'=>∃ v,e = .returned v∧s.post enc C.prog fn apart fresh handsOn again W args v W') :
  ReturnsInHanded a C os f .any (fun w args=>(s.pre enc C.prog fn conds apart w args∧X w args)∧sizedMet enc C.prog fn (OpenSpec.ofChange s) apart w args) (s.post enc C.prog fn apart fresh handsOn again):=by
 refine returnsInHanded_of_calls own started noInit witness ?_
 intro w tape i _ hsh _ hok hpre hholds
 obtain ⟨_,_,_,fn',Oc,_,_,_,_,hval⟩:=hok
 have e : fn' = fn:=Option.some.inj (Oc.symm.trans hfn)
 subst e
 obtain ⟨⟨⟨ds,gs,before,hw,hc⟩,hx⟩,hz⟩:=hpre
 have hw':=DataW.Whole.of_heap (w':=w.forCall tape i) (by rfl) hw
 refine (contract (w.forCall tape i) w.heap.size i.args ds gs before hval hw' hc (hz.weights hw) (hX _ _ _ (by rfl) hx) hsh hholds).mono fun e W' ⟨v,he,hp⟩=>?_
 subst he
 exact ChangeSpec.post_blind hp
end Go.Proofs
namespace M
open Go Go.RowKit
theorem Ua (s c : ah) : (Lib.trimPrefix s c).length≤s.length:=by
 unfold Lib.trimPrefix
 split
 ·simp
 ·exact Nat.le_refl _
theorem KF [B : Bs] {P : Program} {f0 : FuncId} (hc : ∀ (s p : ByteArray) (w : World),
  Calls P f0 #[.string s,.string p] w fun e w'=>e = .returned (.tuple #[.string ⟨(Lib.trimPrefix s.data.toList p.data.toList).toArray⟩,.bool (Lib.hasPrefix s.data.toList p.data.toList)])∧w' = w) : (fG f0 uO).Sound P :=
 xb fun xs r hg w zl zb cs hx hA hs=>by
  unfold uO at hg
  split at hg
  ·rename_i s c
   split at hg
   ·rename_i hh
    cases hg
    obtain rfl:=Cq hx
    have hl:=Ua s.data.toList c.data.toList
    refine (hc s c w).mono fun e w' ⟨he,hw⟩=>?_
    subst hw
    refine ⟨qj [.str ⟨(Lib.trimPrefix s.data.toList c.data.toList).toArray⟩,.bool (Lib.hasPrefix s.data.toList c.data.toList)],?_,?_,Below.refl _ _,Ef fun x hx=>?_⟩
    ·rw [he,Cp]; rfl
    ·rw [Co]; rfl
    ·have e1 : s.size = s.data.toList.length:=Lib.size_eq _
     simp only [List.mem_cons,List.not_mem_nil,or_false] at hx
     rcases hx with rfl | rfl
     ·exact ⟨Ee (by simp only [ByteArray.size,List.size_toArray]; omega),trivial,fun _ _ h=>h⟩
     ·exact ⟨Ed,trivial,fun _ _ h=>h⟩
   ·cases hg
  ·cases hg
end M
namespace M
open Go Go.RowKit
end M
namespace M
open Go Go.RowKit
end M
namespace M
open Go
end M
namespace M
open Go Go.RowKit
def rR (A : Option Ad) (b _k : Nat) : Prop:=∃ o,A = some (b,o,none)
theorem Q7 {w w2 : World} {z len len' cap : Nat} {A : Option Ad} {e e' : Nat→Nat→C} {Z Z' : Md→Nat→Nat→Prop} (h : (C.row .own z A len cap e).ok w Z) (hE : Ext (rR A) w w2) (hl : len'≤cap)
  (hc : ∀ i j,i < len'→j < z→∃ g o,A = some (g,o,none)∧w2.cell? ⟨g,o + i * z + j,none⟩ = some (e' i j).val)
  (hk : ∀ i j,i < len'→j < z→(e' i j).cell∧(e' i j).bM∧(e' i j).ok w2 Z')
  (hd : ∀ i j,i < len'→j < z→∀ b k,(e' i j).fp b k→(∀ o,A≠some (b,o,none))∧∀ i' j',i' < len'→j' < z→(i,j)≠(i',j')→¬ (e' i' j').fp b k) :
  (C.row .own z A len' cap e').ok w2 Z':=by
 obtain ⟨r1,r2,r3,r4,r5⟩:=h
 refine ⟨hl,fun i j hi hj=>?_,fun i j hi hj=>?_,fun _=>?_,fun i j hi hj b k hf=>?_⟩
 ·obtain ⟨g,o,a1,a2⟩:=hc i j hi hj
  exact ⟨g,o,a1,a2,fun hm=>absurd rfl hm⟩
 ·obtain ⟨a1,a2,a3⟩:=hk i j hi hj
  refine ⟨a1,a2,?_,a3⟩
  cases hq : e' i j <;> first | trivial | exact .inl rfl
 ·rcases r4 rfl with h | ⟨g,o,arr,t,fz,hA,hh,hsz,hfr⟩
  ·exact .inl h
  ·have hg : g < w.heap.size:=(Array.getElem?_eq_some_iff.1 hh).1
   rcases hE.block g hg with e1 | ⟨a1,a2,t',gC,e1,e2,e3,_⟩
   ·exact .inr ⟨g,o,arr,t,fz,hA,e1.trans hh,hsz,fun k hk hk'=>(hE.frozen hg).trans (hfr k hk hk')⟩
   ·rw [hh] at e1
    cases e1
    exact .inr ⟨g,o,a2,t,fz,hA,e2,by omega,fun k hk hk'=>(hE.frozen hg).trans (hfr k hk hk')⟩
 ·obtain ⟨a1,a2⟩:=hd i j hi hj b k hf
  exact ⟨fun _=>a1,a2⟩
end M
namespace M
open Go Go.RowKit Go.Sort
def jB : List (List X)→Option (List Int)
 | []=>some []
 | [.int .i64 n] :: l=>(jB l).map fun r=>n :: r
 | _ :: _=>none
theorem AG : ∀ {rows : List (List X)} {l : List Int},jB rows = some l→rows = l.map fun n=>[.int .i64 n]
 | [],l,h=>by simp [jB] at h; subst h; rfl
 | r :: rows,l,h=>by
  match r,h with
  | [.int .i64 n],h =>
   simp only [jB] at h
   obtain ⟨l',h1,rfl⟩:=Option.map_eq_some_iff.1 h
   rw [AG h1]
   rfl
theorem E4 (l : List Int) : jB (l.map fun n=>[.int .i64 n]) = some l:=by
 induction l with
 | nil=>rfl
 | cons a l ih=>simp [jB,ih]
theorem DQ (w : World) (g o n : Nat) (d : Array Int) (os : Array Obj) : Ext (rR (some (g,o,none))) w (grow (putRow (Value.int .i64) (Sort.ahead w n) g o d) os):=by
 refine ⟨rfl,rfl,rfl,by simp [grow,putRow,mapBlock,Sort.ahead],fun b hb=>?_⟩
 rw [heap_grow_old _ _ (by simpa [putRow,mapBlock,Sort.ahead] using hb)]
 by_cases e : b = g
 ·subst e
  have h1 : (putRow (Value.int .i64) (Sort.ahead w n) b o d).heap[b]? = (w.heap[b]?).map (onCells (putCells (Value.int .i64) o d)):=by simp [putRow,mapBlock,Sort.ahead,Array.getElem?_modify]
  rw [h1]
  cases hh : w.heap[b]? with
  | none=>exact .inl rfl
  | some x =>
   cases x with
   | cells arr t fz=>exact .inr ⟨arr,putCells (Value.int .i64) o d arr,t,fz,rfl,rfl,by simp [putCells],fun k hk=>(hk ⟨o,rfl⟩).elim⟩
   | _=>exact .inl rfl
 ·left
  simp [putRow,mapBlock,Sort.ahead,Array.getElem?_modify,Ne.symm e]
theorem E3 {w : World} {Z : Md→Nat→Nat→Prop} {A : Option Ad} {len cap : Nat} {e : Nat→Nat→C} {zs : List Int} (hok : (C.row .own 1 A len cap e).ok w Z) (hr : (C.row .own 1 A len cap e).er = .row .own 1 (zs.map fun n=>[.int .i64 n])) :
  len = zs.length∧len≤cap∧(len = 0∨∃ g o,A = some (g,o,none)∧Holds (Value.int .i64) w g o zs.toArray∧g < w.heap.size):=by
 obtain ⟨A',len',cap',e',hc,hlen,hrow⟩:=zn hr
 cases hc
 rw [List.length_map] at hlen
 obtain ⟨r1,r2,r3,r4,r5⟩:=hok
 refine ⟨hlen,r1,?_⟩
 rcases Nat.eq_zero_or_pos len with h0 | h0
 ·exact .inl h0
 ·right
  obtain ⟨g,o,rfl,_,_⟩:=r2 0 0 h0 (by omega)
  have hb : ∃ arr t fz,w.heap[g]? = some (.cells arr t fz)∧∀ k,o≤k→k < o + cap * 1→w.frozen? ⟨g,k,none⟩ = false:=by
   rcases r4 rfl with ⟨h,_⟩ | ⟨g',o',arr,t,fz,q1,q2,q3,q4⟩
   ·cases h
   ·cases q1
    exact ⟨arr,t,fz,q2,q4⟩
  obtain ⟨arr,t,fz,q2,q4⟩:=hb
  refine ⟨g,o,rfl,fun j hj=>?_,(Array.getElem?_eq_some_iff.1 q2).1⟩
  have hj' : j < zs.length:=by simpa using hj
  obtain ⟨g',o',a1,a2,_⟩:=r2 j 0 (by omega) (by omega)
  cases a1
  have he:=hrow j (by omega)
  rw [List.getElem?_map,List.getElem?_eq_getElem hj'] at he
  simp only [Option.map_some,List.range_one,List.map_cons,List.map_nil,Option.some.injEq,List.cons.injEq,and_true] at he
  have N3:=K2 he.symm
  rw [N3,Nat.mul_one,Nat.add_zero] at a2
  refine ⟨?_,q4 _ (by omega) (by omega)⟩
  rw [a2]
  show some (Value.int .i64 zs[j]) = _
  simp [hj']
theorem E2 {w w2 : World} {zl zb : Nat→Nat→Prop} {A : Option Ad} {len cap : Nat} {e : Nat→Nat→C} {zs : List Int} (hok : (C.row .own 1 A len cap e).ok w (Zf zl zb)) (hE : Ext (rR A) w w2) (hl : zs.length≤cap)
  (hc : ∀ i,i < zs.length→∃ g o,A = some (g,o,none)∧w2.cell? ⟨g,o + i,none⟩ = some (.int .i64 (zs.getD i 0))) :
  (C.row .own 1 A zs.length cap fun i _=>.int .i64 (zs.getD i 0)).ok w2 (Zf zl fun _ _=>False)∧(C.row .own 1 A zs.length cap fun i _=>.int .i64 (zs.getD i 0)).er = .row .own 1 (zs.map fun n=>[.int .i64 n])∧∀ b k,(C.row .own 1 A zs.length cap fun i _=>.int .i64 (zs.getD i 0)).fp b k→(C.row .own 1 A len cap e).fp b k:=by
 refine ⟨Q7 hok hE hl (fun i j hi hj=>?_) (fun i j hi hj=>⟨trivial,trivial,trivial⟩) (fun i j hi hj b k hf=>hf.elim),?_,fun b k hf=>?_⟩
 ·obtain ⟨g,o,h1,h2⟩:=hc i hi
  have : j = 0:=by omega
  subst this
  exact ⟨g,o,h1,by rw [Nat.mul_one,Nat.add_zero]; exact h2⟩
 ·show X.row .own 1 _ = _
  congr 1
  apply List.ext_getElem?
  intro t
  by_cases ht : t < zs.length
  ·rw [List.getElem?_map,List.getElem?_range ht,List.getElem?_map,List.getElem?_eq_getElem ht]
   simp [C.er,List.getD,ht]
  ·rw [List.getElem?_eq_none (by simp; omega),List.getElem?_eq_none (by simp; omega)]
 ·obtain ⟨_,hf⟩:=hf
  rcases hf with hf | ⟨i,j,_,_,hf⟩
  ·exact ⟨rfl,.inl hf⟩
  ·exact hf.elim
def eR (zs : List Int) : List Int:=zs.mergeSort fun x y=>decide (x≤y)
def tW (f0 : Nat) : bp:=fun f xs=>if f = f0 then (match xs with
 | [.row .own 1 rows]=>(match jB rows with
  | some zs=>if zs.length≤1073741824 then some (.au [],[.row .own 1 ((eR zs).map fun n=>[.int .i64 n])]) else none
  | none=>none)
 | _=>none) else none
def uN (f0 : Nat) : bp:=fun f xs=>if f = f0 then (match xs with
 | [.row .own 1 rows]=>(match jB rows with
  | some zs=>if zs.length≤1073741824 then some (.row .own 1 ((Lib.compact zs).map fun n=>[.int .i64 n]),[.dead]) else none
  | none=>none)
 | _=>none) else none
theorem qc (zs : List Int) : (eR zs).length = zs.length:=List.length_mergeSort zs
theorem EL {w : World} {g o : Nat} {zs : List Int} (h : Holds (Value.int .i64) w g o zs.toArray) (i : Nat) (hi : i < zs.length) : w.cell? ⟨g,o + i,none⟩ = some (.int .i64 (zs.getD i 0)):=by
 have:=(h i (by simpa using hi)).1
 rw [this]
 simp [List.getD,hi]
theorem Rl [B : Bs] {P : Program} {f0 : FuncId}
  (h0 : ∀ (A : Option Addr) (cap : Nat) (w : World),Calls P f0 #[.slice A 0 cap] w fun e w'=>e = .returned (.tuple #[])∧w' = w)
  (h1 : ∀ (g o cap : Nat) (zs : List Int) (w : World),Holds (Value.int .i64) w g o zs.toArray→g < w.heap.size→zs.length < 4611686018427387904 →
   Calls P f0 #[.slice (some ⟨g,o,none⟩) zs.length cap] w fun e w'=>e = .returned (.tuple #[])∧∃ n os,w' = grow (putRow (Value.int .i64) (Sort.ahead w n) g o (zs.mergeSort fun x y=>decide (x≤y)).toArray) os) : (tW f0).Sound P:=fun f xs o e=>by
 unfold tW at e
 split at e
 ·rename_i hf
  subst hf
  split at e
  ·rename_i rows
   split at e
   ·rename_i zs hz
    split at e
    ·rename_i hbig
     cases e
     intro w zl zb cs hx hA jw
     obtain ⟨c0,r1,rfl,hc0,hn⟩:=map_cons hx
     obtain rfl:=map_nil hn
     rw [AG hz] at hc0
     obtain ⟨A,len,cap,e,rfl,_,_⟩:=zn hc0
     have hok:=hA.ok _ (List.mem_cons_self ..)
     obtain ⟨hlen,hlc,hrow⟩:=E3 hok hc0
     have key : Calls P f #[(C.row .own 1 A len cap e).val] w fun en w'=>en = .returned (.tuple #[])∧Ext (rR A) w w'∧∀ i,i < (eR zs).length→∃ g o,A = some (g,o,none)∧w'.cell? ⟨g,o + i,none⟩ = some (.int .i64 ((eR zs).getD i 0)):=by
      rcases hrow with hl0 | ⟨g,o,rfl,hH,hg⟩
      ·subst hl0
       refine (h0 _ cap w).mono ?_
       rintro en w' ⟨rfl,rfl⟩
       refine ⟨rfl,Ext.refl _ _,fun i hi=>?_⟩
       rw [qc] at hi
       omega
      ·subst hlen
       refine (h1 g o cap zs w hH hg (by omega)).mono ?_
       rintro en w' ⟨rfl,n,os,rfl⟩
       refine ⟨rfl,DQ w g o n _ os,fun i hi=>⟨g,o,rfl,?_⟩⟩
       have zM : Holds (Value.int .i64) (putRow (Value.int .i64) (Sort.ahead w n) g o (eR zs).toArray) g o (eR zs).toArray:=holds_putRow _ _ g o zs.toArray _ (holds_ahead _ w n g o _ hH) (by simp [qc])
       have:=EL zM i hi
       rw [← this]
       exact cell?_grow _ _ _ (by simpa [putRow,mapBlock,Sort.ahead] using hg)
     refine key.mono ?_
     rintro en w' ⟨rfl,hE,hcl⟩
     obtain ⟨k1,k2,k3⟩:=E2 hok hE (by rw [qc]; omega) hcl
     have iR : ∀ b k,(C.row .own 1 A len cap e).fp b k→¬ zl b k:=fun b k hf=>(hA.fz _ (List.mem_cons_self ..) b k hf).1
     generalize hR : (C.row .own 1 A (eR zs).length cap fun i _=>.int .i64 ((eR zs).getD i 0)) = R at k1 k2 k3
     have zN : R.bare:=by rw [← hR]; trivial
     have vh : R.val = (C.row .own 1 A len cap e).val:=by rw [← hR,qc,hlen]; rfl
     refine ⟨qj [],[R],zl,⟨by rw [Cp]; rfl,by simp [vh],hE.mono fun b k hh _=>⟨_,List.mem_cons_self ..,⟨rfl,.inl hh⟩⟩,⟨fun x hx'=>?_,fun x hx'=>?_,fun x hx' b k hf=>?_,fun b k hz=>?_,?_⟩,fun x hx' b k hf=>?_,fun _ _ h=>h,fun _ _ h=>.inl h⟩,?_,?_⟩
     ·simp only [List.mem_cons,List.not_mem_nil,or_false] at hx'
      rcases hx' with rfl | rfl
      ·exact ⟨fun j hj=>absurd hj (Nat.not_lt_zero _),fun j hj=>absurd hj (Nat.not_lt_zero _)⟩
      ·exact k1
     ·simp only [List.mem_cons,List.not_mem_nil,or_false] at hx'
      rcases hx' with rfl | rfl
      ·exact fun j hj=>absurd hj (Nat.not_lt_zero _)
      ·exact zN
     ·simp only [List.mem_cons,List.not_mem_nil,or_false] at hx'
      rcases hx' with rfl | rfl
      ·obtain ⟨j,hj,_⟩:=hf; exact absurd hj (Nat.not_lt_zero _)
      ·exact ⟨iR b k (k3 b k hf),fun h=>h⟩
     ·rcases hz with hz | hz
      ·exact Nat.lt_of_lt_of_le (hA.bu b k (.inl hz)) hE.size
      ·exact hz.elim
     ·refine List.pairwise_cons.2 ⟨fun x hx' b k hf=>?_,List.pairwise_singleton ..⟩
      obtain ⟨j,hj,_⟩:=hf; exact absurd hj (Nat.not_lt_zero _)
     ·simp only [List.mem_cons,List.not_mem_nil,or_false] at hx'
      rcases hx' with rfl | rfl
      ·obtain ⟨j,hj,_⟩:=hf; exact absurd hj (Nat.not_lt_zero _)
      ·exact .inl ⟨_,List.mem_cons_self ..,k3 b k hf⟩
     ·rw [Co]; rfl
     ·simp [k2]
    ·cases e
   ·cases e
  ·cases e
 ·cases e
theorem Ds (zs : List Int) : (Lib.compact zs).length≤zs.length:=by
 unfold Lib.compact Lib.compactUpTo
 have:=List.length_filter_le (Lib.keeps zs.toArray) (List.range zs.length)
 simp at this ⊢
 exact this
theorem Ks [B : Bs] {P : Program} {f0 : FuncId}
  (h0 : ∀ (A : Option Addr) (cap : Nat) (w : World),Calls P f0 #[.slice A 0 cap] w fun e w'=>e = .returned (.slice A 0 cap)∧w' = w)
  (h1 : ∀ (g o cap : Nat) (zs : List Int) (w : World),Holds (Value.int .i64) w g o zs.toArray→zs.length≤9223372036854775807→zs.length≤cap →
   Calls P f0 #[.slice (some ⟨g,o,none⟩) zs.length cap] w fun e w'=>e = .returned (.slice (some ⟨g,o,none⟩) (Lib.compact zs).length cap)∧∃ q,w' = putRow (Value.int .i64) (Sort.ahead w q) g o (Lib.compact zs ++ List.replicate (zs.length - (Lib.compact zs).length) 0).toArray) : (uN f0).Sound P:=fun f xs o e=>by
 unfold uN at e
 split at e
 ·rename_i hf
  subst hf
  split at e
  ·rename_i rows
   split at e
   ·rename_i zs hz
    split at e
    ·rename_i hbig
     cases e
     intro w zl zb cs hx hA jw
     obtain ⟨c0,r1,rfl,hc0,hn⟩:=map_cons hx
     obtain rfl:=map_nil hn
     rw [AG hz] at hc0
     obtain ⟨A,len,cap,e,rfl,_,_⟩:=zn hc0
     have hok:=hA.ok _ (List.mem_cons_self ..)
     obtain ⟨hlen,hlc,hrow⟩:=E3 hok hc0
     have Wk:=Ds zs
     have key : Calls P f #[(C.row .own 1 A len cap e).val] w fun en w'=>en = .returned (.slice (A.map fun q=>⟨q.1,q.2.1,q.2.2⟩) (Lib.compact zs).length cap)∧Ext (rR A) w w'∧∀ i,i < (Lib.compact zs).length→∃ g o,A = some (g,o,none)∧w'.cell? ⟨g,o + i,none⟩ = some (.int .i64 ((Lib.compact zs).getD i 0)):=by
      rcases hrow with hl0 | ⟨g,o,rfl,hH,hg⟩
      ·subst hl0
       refine (h0 _ cap w).mono ?_
       rintro en w' ⟨rfl,rfl⟩
       have hz0 : (Lib.compact zs).length = 0:=by omega
       exact ⟨by rw [hz0],Ext.refl _ _,fun i hi=>by omega⟩
      ·subst hlen
       refine (h1 g o cap zs w hH (by omega) hlc).mono ?_
       rintro en w' ⟨rfl,n,rfl⟩
       have hx0:=DQ w g o n (Lib.compact zs ++ List.replicate (zs.length - (Lib.compact zs).length) 0).toArray #[]
       rw [grow_empty] at hx0
       refine ⟨rfl,hx0,fun i hi=>⟨g,o,rfl,?_⟩⟩
       have zM:=holds_putRow (Value.int .i64) (Sort.ahead w n) g o zs.toArray (Lib.compact zs ++ List.replicate (zs.length - (Lib.compact zs).length) 0).toArray (holds_ahead _ w n g o _ hH) (by simp; omega)
       have:=EL zM i (by simp; omega)
       rw [this]
       congr 2
       simp [List.getD,List.getElem?_append_left hi]
     refine key.mono ?_
     rintro en w' ⟨rfl,hE,hcl⟩
     obtain ⟨k1,k2,k3⟩:=E2 hok hE (by omega) hcl
     have iR : ∀ b k,(C.row .own 1 A len cap e).fp b k→¬ zl b k:=fun b k hf=>(hA.fz _ (List.mem_cons_self ..) b k hf).1
     have vh : (C.row .own 1 A (Lib.compact zs).length cap fun i _=>.int .i64 ((Lib.compact zs).getD i 0)).val = .slice (A.map fun q=>⟨q.1,q.2.1,q.2.2⟩) (Lib.compact zs).length cap:=rfl
     generalize hR : (C.row .own 1 A (Lib.compact zs).length cap fun i _=>.int .i64 ((Lib.compact zs).getD i 0)) = R at k1 k2 k3 vh
     have zN : R.bare:=by rw [← hR]; trivial
     refine ⟨R,[.dead (C.row .own 1 A len cap e).val],zl,⟨by rw [vh],rfl,hE.mono fun b k hh _=>⟨_,List.mem_cons_self ..,⟨rfl,.inl hh⟩⟩,⟨fun x hx'=>?_,fun x hx'=>?_,fun x hx' b k hf=>?_,fun b k hz=>?_,?_⟩,fun x hx' b k hf=>?_,fun _ _ h=>h,fun _ _ h=>.inl h⟩,k2,rfl⟩
     ·simp only [List.mem_cons,List.not_mem_nil,or_false] at hx'
      rcases hx' with rfl | rfl
      ·exact k1
      ·trivial
     ·simp only [List.mem_cons,List.not_mem_nil,or_false] at hx'
      rcases hx' with rfl | rfl
      ·exact zN
      ·trivial
     ·simp only [List.mem_cons,List.not_mem_nil,or_false] at hx'
      rcases hx' with rfl | rfl
      ·exact ⟨iR b k (k3 b k hf),fun h=>h⟩
      ·exact hf.elim
     ·rcases hz with hz | hz
      ·exact Nat.lt_of_lt_of_le (hA.bu b k (.inl hz)) hE.size
      ·exact hz.elim
     ·refine List.pairwise_cons.2 ⟨fun x hx' b k hf hf'=>?_,List.pairwise_singleton ..⟩
      simp only [List.mem_cons,List.not_mem_nil,or_false] at hx'
      subst hx'
      exact hf'
     ·simp only [List.mem_cons,List.not_mem_nil,or_false] at hx'
      rcases hx' with rfl | rfl
      ·exact .inl ⟨_,List.mem_cons_self ..,k3 b k hf⟩
      ·exact hf.elim
    ·cases e
   ·cases e
  ·cases e
 ·cases e
end M
