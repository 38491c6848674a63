/- A machine of values for loaded Go functions, sound for the calculus of calls; part 3; no conditions. -/
import Derived.Test.YtbbahpjmdjlhgaaDoorMb
import Derived.Sort.Grow
import Derived.Deep.Draws
import Derived.Lib.LaidTab
import Derived.MakeChecks
import Derived.Laws.BitsLemmas
import Derived.ChangeArms
import Derived.ChangeReads
import Derived.ChangeOld
import Derived.ChangeShapes
import Derived.SizedLaws
import Derived.RowKit
import Derived.Below
import Derived.Lib.ItoaNum
import Derived.Lib.TrimByte
import Derived.Lib.AtoiAllCases
import Derived.Lib.SplitLaws
import Derived.Lib.Join
import Derived.Lib.IndexMore
import Derived.HandedShaped
import Derived.Lib.Strings
import Derived.Lib.Slices
import Derived.Lib.Walk
import Derived.Stop.LaidErr
set_option linter.unusedSectionVars false
set_option linter.unusedVariables false
set_option linter.unusedSimpArgs false
namespace M
open Go
section
variable {C C' : aN} {ok : FuncId→Bool}
theorem EV {C : aN} {d : Option Nat} {s s' : af} {f : FuncId} {xs : List X} (h : gY d s (C f xs) = some s') : ∃ o,C f xs = some o∧∀ C' : aN,C' f xs = some o→gY d s (C' f xs) = some s':=by
 cases ho : C f xs with
 | none=>rw [ho] at h; cases h
 | some o=>rw [ho] at h; exact ⟨o,rfl,fun C' h'=>by rw [h']; exact h⟩
theorem EU {C : aN} {d : Option Nat} {as : List (AV×PM)} {back : l7} {s' : af} {f : FuncId} {xs : List X} (h : nW d as back (C f xs) = some s') : ∃ o,C f xs = some o∧∀ C' : aN,C' f xs = some o→nW d as back (C' f xs) = some s':=by
 cases ho : C f xs with
 | none=>rw [ho] at h; cases h
 | some o=>rw [ho] at h; exact ⟨o,rfl,fun C' h'=>by rw [h']; exact h⟩
theorem vu {f : FuncId} {d : Option Nat} {as : List (AV×PM)} {fv : Option AV} {s s' : af} (h : iE C f d as fv s = some s') :
  ∃ xs o,C f xs = some o∧∀ C' : aN,C' f xs = some o→iE C' f d as fv s = some s':=by
 unfold iE at h ⊢
 by_cases hb : X.bare.dH (aG as s).1 = true
 ·simp only [if_pos hb] at h ⊢
  cases hm : bG as with
  | none =>
   simp only [hm] at h ⊢
   by_cases hc : kA (aG as s).2 fv f = true
   ·simp only [if_pos hc] at h ⊢
    obtain ⟨o,h1,h2⟩:=EV h
    exact ⟨_,o,h1,h2⟩
   ·simp only [if_neg hc] at h; cases h
  | some xn =>
   obtain ⟨x,n⟩:=xn
   simp only [hm] at h ⊢
   unfold pq at h ⊢
   split at h
   ·split at h
    ·rename_i y back h1 h2
     simp only [h1,if_pos h2]
     obtain ⟨o,h1,h2⟩:=EU h
     exact ⟨_,o,h1,h2⟩
    ·cases h
   ·cases h
 ·simp only [if_neg hb] at h; cases h
theorem vW {o : aM} {s s' : af} (h : aT C ok o s = some s') : (∀ C' : aN,aT C' ok o s = some s')∨∃ f xs r,C f xs = some r∧∀ C' : aN,C' f xs = some r→aT C' ok o s = some s':=by
 cases o with
 | call d f as =>
  obtain ⟨xs,o,h1,h2⟩:=vu (C:=C) h
  exact .inr ⟨f,xs,o,h1,h2⟩
 | iF d x as =>
  simp only [aT] at h ⊢
  split at h
  ·rename_i f caps hf
   split at h
   ·rename_i hok
    obtain ⟨xs,o,h1,h2⟩:=vu (C:=C) h
    refine .inr ⟨f,xs,o,h1,fun C' h'=>?_⟩
    simp only [if_pos hok]
    exact h2 C' h'
   ·cases h
  ·cases h
 | iD d f x as =>
  simp only [aT] at h ⊢
  split at h
  ·rename_i cs h1
   split at h
   ·rename_i h2
    simp only [if_pos h2]
    refine .inr ?_
    cases ho : C f (.agg (aH cs s).1 :: cz (aH cs s).2 .dead as (as.map fun _=>.dead)) with
    | none=>rw [ho] at h; cases h
    | some r=>rw [ho] at h; exact ⟨f,_,r,ho,fun C' h'=>by rw [h']; exact h⟩
   ·cases h
  ·cases h
 | _=>exact .inl fun _=>h
theorem vS {g : G} {s s' : af} (h : eG C ok g s = some s') : (∀ C' : aN,eG C' ok g s = some s')∨∃ f xs r,C f xs = some r∧∀ C' : aN,C' f xs = some r→eG C' ok g s = some s':=by
 obtain ⟨gg,o⟩:=g
 cases gg with
 | none=>exact vW h
 | some tb =>
  obtain ⟨t,b⟩:=tb
  simp only [eG] at h ⊢
  split at h
  ·rename_i v hv
   split at h
   ·rename_i h1
    simp only [hv,if_pos h1]
    exact vW h
   ·rename_i h1
    simp only [hv,if_neg h1]
    exact .inl fun _=>h
  ·exact .inl fun _=>h
  ·cases h
def aN.le (C C' : aN) : Prop:=∀ f xs o,C f xs = some o→C' f xs = some o
theorem vU (hl : C.le C') {g : G} {s s' : af} (h : eG C ok g s = some s') : eG C' ok g s = some s':=by
 rcases vS h with h | ⟨f,xs,r,h1,h2⟩
 ·exact h _
 ·exact h2 _ (hl _ _ _ h1)
theorem sG (hl : C.le C') : ∀ {l : List G} {s s' : af},dS C ok l s = some s'→dS C' ok l s = some s'
 | [],_,_,h=>h
 | g :: l,s,s',h=>by
  simp only [dS] at h ⊢
  cases h1 : eG C ok g s with
  | none=>rw [h1] at h; cases h
  | some s1=>rw [h1] at h; rw [vU hl h1]; exact sG hl h
theorem kF (hl : C.le C') : ∀ {t : DT} {s s' : af},eD C ok t s = some s'→eD C' ok t s = some s'
 | .nil _,_,_,h=>h
 | .step _ g l,s,s',h=>by
  simp only [eD] at h ⊢
  cases h1 : eG C ok g s with
  | none=>rw [h1] at h; cases h
  | some s1=>rw [h1] at h; rw [vU hl h1]; exact kF hl h
 | .alt a b,s,s',h=>by
  simp only [eD] at h ⊢
  unfold same at h
  split at h
  ·rename_i x y hx hy
   rw [kF hl hx,kF hl hy]
   exact h
  ·cases h
 | .kp _ t,s,s',h=>kF (t:=t) hl h
theorem rE {k k' : af→aX} {r r' : aX} {o : Ex×af} (h : cx k r = some o) (hr : ∀ x,r = some x→r' = some x) (hk : ∀ s,k s = some o→k' s = some o) : cx k' r' = some o:=by
 unfold cx at h
 split at h
 ·rw [hr _ rfl]; exact hk _ h
 ·rw [hr _ rfl]; exact h
 ·rw [hr _ rfl]; exact h
 ·cases h
theorem kV {f f' : af→aX} (hf : ∀ s o,f s = some o→f' s = some o) : ∀ {n m : Nat} {s : af} {o : Ex×af},n≤m→iter f n s = some o→iter f' m s = some o
 | 0,_,_,_,_,h=>by cases h
 | n + 1,0,_,_,hn,_=>by omega
 | n + 1,m + 1,s,o,hn,h=>rE h (hf s) fun s' h'=>kV hf (by omega) h'
end
noncomputable def bQ (f : af→aX) (s : af) : aX:=by
 classical exact if h : ∃ o : Ex×af,∃ n,iter f n s = some o then some (Classical.choose h) else none
theorem nH {f : af→aX} {s : af} {o : Ex×af} {n : Nat} (h : iter f n s = some o) : bQ f s = some o:=by
 have hh : ∃ o : Ex×af,∃ n,iter f n s = some o:=⟨o,n,h⟩
 unfold bQ
 rw [dif_pos hh]
 obtain ⟨m,hm⟩:=Classical.choose_spec hh
 have h1:=kV (fun _ _ h=>h) (Nat.le_max_left m n) hm
 have h2:=kV (fun _ _ h=>h) (Nat.le_max_right m n) h
 rw [h1] at h2
 exact h2
theorem tU {f : af→aX} {s : af} {o : Ex×af} (h : bQ f s = some o) : ∃ n,iter f n s = some o:=by
 unfold bQ at h
 split at h
 ·rename_i hh
  cases h
  exact Classical.choose_spec hh
 ·cases h
theorem ug {α : Type} {a b : Option α} (h1 : ∀ x,a = some x→b = some x) (h2 : ∀ x,b = some x→a = some x) : a = b:=by
 cases a with
 | none=>cases b with
  | none=>rfl
  | some y=>exact h2 y rfl
 | some x=>exact (h1 x rfl).symm
theorem ey (f : af→aX) (s : af) : bQ f s = cx (bQ f) (f s):=by
 refine ug (fun o h=>?_) fun o h=>?_
 ·obtain ⟨n,hn⟩:=tU h
  cases n with
  | zero=>cases hn
  | succ n=>exact rE hn (fun _ h=>h) fun s' h'=>nH h'
 ·unfold cx at h
  split at h
  ·rename_i s' hs
   obtain ⟨n,hn⟩:=tU h
   refine nH (n:=n + 1) ?_
   simp only [iter,hs,cx]; exact hn
  ·rename_i hs; refine nH (n:=1) ?_; simp only [iter,hs,cx]; exact h
  ·rename_i hs; refine nH (n:=1) ?_; simp only [iter,hs,cx]; exact h
  ·cases h
noncomputable def aA (C : aN) (ok : FuncId→Bool) : A→af→aX
 | .skip,s=>some (.normal,s)
 | .ret,s=>some (.ret,s)
 | .exit id,s=>some (.exit id,s)
 | .ops l,s=>dc (dS C ok l s)
 | .draw t,s=>dc (eD C ok t s)
 | .seq a b,s=>cx (aA C ok b) (aA C ok a s)
 | .cond c a b,s=>match ag s c with
  | .bool t=>if t = true then aA C ok a s else aA C ok b s
  | _=>none
 | .block id b,s=>eJ id (aA C ok b s)
 | .loop b,s=>bQ (aA C ok b) s
 | .pk ks b,s=>eX ks (aA C ok b s)
theorem qJ {a b : Option af} (h : ∀ s,a = some s→b = some s) {o : Ex×af} (ho : dc a = some o) : dc b = some o:=by
 unfold dc at ho
 split at ho
 ·rw [h _ rfl]; exact ho
 ·cases ho
theorem vn {id : Nat} {a b : aX} (h : ∀ s,a = some s→b = some s) {o : Ex×af} (ho : eJ id a = some o) : eJ id b = some o:=by
 cases a with
 | none=>cases ho
 | some x=>rw [h _ rfl]; exact ho
theorem yB {ks : List Nat} {a b : aX} (h : ∀ s,a = some s→b = some s) {o : Ex×af} (ho : eX ks a = some o) : eX ks b = some o:=by
 cases a with
 | none=>cases ho
 | some x=>rw [h _ rfl]; exact ho
theorem A4 {C C' : aN} {ok : FuncId→Bool} (hl : C.le C') {N : Nat} : ∀ {t : A} {s : af} {o : Ex×af},eA C ok N t s = some o→aA C' ok t s = some o:=by
 intro t
 induction t with
 | skip=>intro s o h; exact h
 | ret=>intro s o h; exact h
 | exit id=>intro s o h; exact h
 | ops l=>intro s o h; exact qJ (fun s' h'=>sG hl h') h
 | draw l=>intro s o h; exact qJ (fun s' h'=>kF hl h') h
 | seq a b cZ dX=>intro s o h; exact rE h (fun x hx=>cZ hx) fun s' h'=>dX h'
 | cond c a b cZ dX =>
  intro s o h
  simp only [eA] at h
  simp only [aA]
  split at h
  ·rename_i t ht
   try rw [ht]
   cases t with
   | true=>exact cZ h
   | false=>exact dX h
  ·cases h
 | block id b ih=>intro s o h; exact vn (fun x hx=>ih hx) h
 | loop b ih=>intro s o h; exact nH (kV (fun s o h=>ih h) (Nat.le_refl _) h)
 | pk ks b ih=>intro s o h; exact yB (fun x hx=>ih hx) h
theorem A5 {C C' : aN} {ok : FuncId→Bool} (hl : C.le C') {N N' : Nat} (hN : N≤N') : ∀ {t : A} {s : af} {o : Ex×af},eA C ok N t s = some o→eA C' ok N' t s = some o:=by
 intro t
 induction t with
 | skip=>intro s o h; exact h
 | ret=>intro s o h; exact h
 | exit id=>intro s o h; exact h
 | ops l=>intro s o h; exact qJ (fun s' h'=>sG hl h') h
 | draw l=>intro s o h; exact qJ (fun s' h'=>kF hl h') h
 | seq a b cZ dX=>intro s o h; exact rE h (fun x hx=>cZ hx) fun s' h'=>dX h'
 | cond c a b cZ dX =>
  intro s o h
  simp only [eA] at h ⊢
  split at h
  ·rename_i t ht
   cases t with
   | true=>exact cZ h
   | false=>exact dX h
  ·cases h
 | block id b ih=>intro s o h; exact vn (fun x hx=>ih hx) h
 | loop b ih=>intro s o h; exact kV (fun s o h=>ih h) hN h
 | pk ks b ih=>intro s o h; exact yB (fun x hx=>ih hx) h
theorem pW {L : aN} {T : dF} : ∀ {n m : Nat},n≤m→(exec L T n).le (exec L T m)
 | 0,_,_,_,_,_,h=>by cases h
 | n + 1,0,hn,_,_,_,_=>by omega
 | n + 1,m + 1,hn,f,xs,o,h=>by
  have hnm : n≤m:=by omega
  simp only [exec] at h ⊢
  split at h
  ·rename_i F hF
   unfold eF at h ⊢
   split at h
   ·rename_i hl
    rw [if_pos hl]
    cases hr : eA (exec L T n) (aP T) n F.body (fG xs) with
    | none=>rw [hr] at h; cases h
    | some r=>rw [hr] at h; rw [A5 (pW hnm) hnm hr]; exact h
   ·cases h
  ·exact h
noncomputable def ev (L : aN) (T : dF) : aN:=fun f xs=>by
 classical exact if h : ∃ o : Out,∃ n,exec L T n f xs = some o then some (Classical.choose h) else none
theorem sJ {L : aN} {T : dF} {f : FuncId} {xs : List X} {o : Out} {n : Nat} (h : exec L T n f xs = some o) : ev L T f xs = some o:=by
 have hh : ∃ o : Out,∃ n,exec L T n f xs = some o:=⟨o,n,h⟩
 unfold ev
 rw [dif_pos hh]
 obtain ⟨m,hm⟩:=Classical.choose_spec hh
 have h1:=pW (Nat.le_max_left m n) f xs _ hm
 have h2:=pW (Nat.le_max_right m n) f xs _ h
 rw [h1] at h2
 exact h2
theorem pV {L : aN} {T : dF} {f : FuncId} {xs : List X} {o : Out} (h : ev L T f xs = some o) : ∃ n,exec L T n f xs = some o:=by
 unfold ev at h
 split at h
 ·rename_i hh
  cases h
  exact Classical.choose_spec hh
 ·cases h
theorem Bb (L : aN) (T : dF) (n : Nat) : (exec L T n).le (ev L T):=fun _ _ _ h=>sJ h
theorem Ba [Bs] {P : Program} {L : aN} {T : dF} (hL : L.Sound P) (hT : T.Ok P) : (ev L T).Sound P:=fun f xs o h=>by
 obtain ⟨n,hn⟩:=pV h
 exact wk hL hT n f xs o hn
section
variable {L : aN} {T : dF}
theorem vT {g : G} {s s' : af} (h : eG (ev L T) (aP T) g s = some s') : ∃ n,∀ m,n≤m→eG (exec L T m) (aP T) g s = some s':=by
 rcases vS h with h | ⟨f,xs,r,h1,h2⟩
 ·exact ⟨0,fun m _=>h _⟩
 ·obtain ⟨n,hn⟩:=pV h1
  exact ⟨n,fun m hm=>h2 _ (pW hm f xs r hn)⟩
theorem vY : ∀ {l : List G} {s s' : af},dS (ev L T) (aP T) l s = some s'→∃ n,∀ m,n≤m→dS (exec L T m) (aP T) l s = some s'
 | [],s,s',h=>⟨0,fun m _=>h⟩
 | g :: l,s,s',h=>by
  simp only [dS] at h ⊢
  cases h1 : eG (ev L T) (aP T) g s with
  | none=>rw [h1] at h; cases h
  | some s1 =>
   rw [h1] at h
   obtain ⟨n1,dr⟩:=vT h1
   obtain ⟨n2,hn2⟩:=vY (l:=l) h
   exact ⟨max n1 n2,fun m hm=>by rw [dr m (by omega)]; exact hn2 m (by omega)⟩
theorem mG : ∀ {l : DT} {s s' : af},eD (ev L T) (aP T) l s = some s'→∃ n,∀ m,n≤m→eD (exec L T m) (aP T) l s = some s'
 | .nil _,s,s',h=>⟨0,fun m _=>h⟩
 | .step _ g l,s,s',h=>by
  simp only [eD] at h ⊢
  cases h1 : eG (ev L T) (aP T) g s with
  | none=>rw [h1] at h; cases h
  | some s1 =>
   rw [h1] at h
   obtain ⟨n1,dr⟩:=vT h1
   obtain ⟨n2,hn2⟩:=mG (l:=l) h
   exact ⟨max n1 n2,fun m hm=>by rw [dr m (by omega)]; exact hn2 m (by omega)⟩
 | .alt a b,s,s',h=>by
  simp only [eD] at h ⊢
  unfold same at h
  split at h
  ·rename_i x y hx hy
   obtain ⟨n1,dr⟩:=mG hx
   obtain ⟨n2,hn2⟩:=mG hy
   exact ⟨max n1 n2,fun m hm=>by rw [dr m (by omega),hn2 m (by omega)]; exact h⟩
  ·cases h
 | .kp _ t,s,s',h=>mG (l:=t) h
theorem yl {a : Option af} {b : Nat→Option af} (h : ∀ s,a = some s→∃ n,∀ m,n≤m→b m = some s) {o : Ex×af} (ho : dc a = some o) : ∃ n,∀ m,n≤m→dc (b m) = some o:=by
 cases a with
 | none=>cases ho
 | some s =>
  obtain ⟨n,hn⟩:=h s rfl
  exact ⟨n,fun m hm=>by rw [hn m hm]; exact ho⟩
theorem A8 : ∀ {t : A} {s : af} {o : Ex×af},aA (ev L T) (aP T) t s = some o→∃ n,∀ m,n≤m→eA (exec L T m) (aP T) m t s = some o:=by
 intro t
 induction t with
 | skip=>intro s o h; exact ⟨0,fun m _=>h⟩
 | ret=>intro s o h; exact ⟨0,fun m _=>h⟩
 | exit id=>intro s o h; exact ⟨0,fun m _=>h⟩
 | ops l=>intro s o h; exact yl (fun s h=>vY h) h
 | draw l=>intro s o h; exact yl (fun s h=>mG h) h
 | seq a b cZ dX =>
  intro s o h
  simp only [aA] at h
  simp only [eA]
  cases hr : aA (ev L T) (aP T) a s with
  | none=>rw [hr] at h; cases h
  | some r =>
   rw [hr] at h
   obtain ⟨n1,dr⟩:=cZ hr
   obtain ⟨e,s1⟩:=r
   cases e with
   | normal =>
    obtain ⟨n2,hn2⟩:=dX (s:=s1) h
    exact ⟨max n1 n2,fun m hm=>by rw [dr m (by omega)]; exact hn2 m (by omega)⟩
   | exit i=>exact ⟨n1,fun m hm=>by rw [dr m hm]; exact h⟩
   | ret=>exact ⟨n1,fun m hm=>by rw [dr m hm]; exact h⟩
 | cond c a b cZ dX =>
  intro s o h
  simp only [aA] at h
  simp only [eA]
  split at h
  ·rename_i t ht
   try rw [ht]
   cases t with
   | true=>exact cZ h
   | false=>exact dX h
  ·cases h
 | block id b ih =>
  intro s o h
  simp only [aA] at h
  simp only [eA]
  cases hr : aA (ev L T) (aP T) b s with
  | none=>rw [hr] at h; cases h
  | some r =>
   rw [hr] at h
   obtain ⟨n1,dr⟩:=ih hr
   exact ⟨n1,fun m hm=>by rw [dr m hm]; exact h⟩
 | pk ks b ih =>
  intro s o h
  simp only [aA] at h
  simp only [eA]
  cases hr : aA (ev L T) (aP T) b s with
  | none=>rw [hr] at h; cases h
  | some r =>
   rw [hr] at h
   obtain ⟨n1,dr⟩:=ih hr
   exact ⟨n1,fun m hm=>by rw [dr m hm]; exact h⟩
 | loop b ih =>
  intro s o h
  simp only [aA] at h
  obtain ⟨n,hn⟩:=tU h
  have go : ∀ (n : Nat) (s : af),iter (aA (ev L T) (aP T) b) n s = some o→∃ k,∀ m,k≤m→iter (eA (exec L T m) (aP T) m b) n s = some o:=by
   intro n
   induction n with
   | zero=>intro s h; cases h
   | succ n ihn =>
    intro s h
    simp only [iter] at h ⊢
    cases hr : aA (ev L T) (aP T) b s with
    | none=>rw [hr] at h; cases h
    | some r =>
     rw [hr] at h
     obtain ⟨n1,dr⟩:=ih hr
     obtain ⟨e,s1⟩:=r
     cases e with
     | normal =>
      obtain ⟨n2,hn2⟩:=ihn s1 h
      exact ⟨max n1 n2,fun m hm=>by rw [dr m (by omega)]; exact hn2 m (by omega)⟩
     | exit i=>exact ⟨n1,fun m hm=>by rw [dr m hm]; exact h⟩
     | ret=>exact ⟨n1,fun m hm=>by rw [dr m hm]; exact h⟩
  obtain ⟨k,hk⟩:=go n s hn
  refine ⟨max k n,fun m hm=>?_⟩
  simp only [eA]
  exact kV (fun _ _ h=>h) (by omega) (hk m (by omega))
noncomputable def pT (L : aN) (T : dF) (F : Fn) (xs : List X) : Option Out :=
 if xs.length = F.n then fin F (aA (ev L T) (aP T) F.body (fG xs)) else none
theorem A9 {f : FuncId} {F : Fn} (hF : T f = some F) (xs : List X) : ev L T f xs = pT L T F xs:=by
 refine ug (fun o h=>?_) fun o h=>?_
 ·obtain ⟨n,hn⟩:=pV h
  cases n with
  | zero=>cases hn
  | succ n =>
   simp only [exec,hF] at hn
   unfold eF at hn
   unfold pT
   split at hn
   ·rename_i hl
    rw [if_pos hl]
    cases hr : eA (exec L T n) (aP T) n F.body (fG xs) with
    | none=>rw [hr] at hn; cases hn
    | some r=>rw [hr] at hn; rw [A4 (Bb L T n) hr]; exact hn
   ·cases hn
 ·unfold pT at h
  split at h
  ·rename_i hl
   cases hr : aA (ev L T) (aP T) F.body (fG xs) with
   | none=>rw [hr] at h; cases h
   | some r =>
    rw [hr] at h
    obtain ⟨n,hn⟩:=A8 hr
    refine sJ (n:=n + 1) ?_
    simp only [exec,hF,eF,if_pos hl,hn n (Nat.le_refl n)]
    exact h
  ·cases h
theorem pU {f : FuncId} (hF : T f = none) (xs : List X) : ev L T f xs = L f xs:=by
 refine ug (fun o h=>?_) fun o h=>?_
 ·obtain ⟨n,hn⟩:=pV h
  cases n with
  | zero=>cases hn
  | succ n=>simpa only [exec,hF] using hn
 ·refine sJ (n:=1) ?_
  simpa only [exec,hF] using h
end
end M
namespace M
open Go
section
variable {C : aN} {ok : FuncId→Bool} {T : dF}
@[simp] theorem H8 (s : af) : aA C ok .skip s = some (.normal,s):=rfl
@[simp] theorem H6 (s : af) : aA C ok .ret s = some (.ret,s):=rfl
@[simp] theorem HW (i : Nat) (s : af) : aA C ok (.exit i) s = some (.exit i,s):=rfl
@[simp] theorem HY (l : List G) (s : af) : aA C ok (.ops l) s = dc (dS C ok l s):=rfl
@[simp] theorem HV (t : DT) (s : af) : aA C ok (.draw t) s = dc (eD C ok t s):=rfl
@[simp] theorem H7 (a b : A) (s : af) : aA C ok (.seq a b) s = cx (aA C ok b) (aA C ok a s):=rfl
@[simp] theorem HT (i : Nat) (b : A) (s : af) : aA C ok (.block i b) s = eJ i (aA C ok b s):=rfl
@[simp] theorem HX (b : A) (s : af) : aA C ok (.loop b) s = bQ (aA C ok b) s:=rfl
@[simp] theorem HZ (ks : List Nat) (b : A) (s : af) : aA C ok (.pk ks b) s = eX ks (aA C ok b s):=rfl
noncomputable def vJ (C : aN) (ok : FuncId→Bool) (a b : A) (s : af) : X→aX
 | .bool t=>if t = true then aA C ok a s else aA C ok b s
 | _=>none
@[simp] theorem HU (c : AV) (a b : A) (s : af) : aA C ok (.cond c a b) s = vJ C ok a b s (ag s c):=by
 simp only [aA]; cases ag s c <;> rfl
@[simp] theorem Ht (a b : A) (s : af) (t : Bool) : vJ C ok a b s (.bool t) = if t = true then aA C ok a s else aA C ok b s:=rfl
@[simp] theorem HR (s : af) : dS C ok [] s = some s:=rfl
@[simp] theorem HQ (g : G) (l : List G) (s : af) : dS C ok (g :: l) s = (eG C ok g s).bind (dS C ok l):=rfl
@[simp] theorem HL (ks : List Nat) (s : af) : eD C ok (.nil ks) s = some (keep ks s):=rfl
@[simp] theorem HM (i : Nat) (g : G) (t : DT) (s : af) : eD C ok (.step i g t) s = (eG C ok g s).bind (eD C ok t):=rfl
@[simp] theorem HJ (a b : DT) (s : af) : eD C ok (.alt a b) s = same (eD C ok a s) (eD C ok b s):=rfl
@[simp] theorem HK (ks : List Nat) (t : DT) (s : af) : eD C ok (.kp ks t) s = eD C ok t (keep ks s):=rfl
@[simp] theorem JK (s : af) : same (some s) (some s) = some s:=by
 have : iK s s = true:=by
  induction s with
  | nil=>rfl
  | cons a l ih=>obtain ⟨k,x⟩:=a; simp [iK,X.wj,ih]
 simp [same,this]
@[simp] theorem GB (c : Prop) [Decidable c] (a b : Option af) (f : af→Option af) : (if c then a else b).bind f = if c then a.bind f else b.bind f:=by split <;> rfl
def p9 (C : aN) (ok : FuncId→Bool) (o : aM) (t : Nat) (b : Bool) (s : af) : X→Option af
 | .bool v=>if v = b then aT C ok o ((t,.bool b) :: s) else some (ct o.dst (.ai []) ((t,.bool (!b)) :: s))
 | .ai []=>some (ct o.dst (.ai []) s)
 | _=>none
@[simp] theorem HO (o : aM) (s : af) : eG C ok ⟨none,o⟩ s = aT C ok o s:=rfl
@[simp] theorem HP (t : Nat) (b : Bool) (o : aM) (s : af) : eG C ok ⟨some (t,b),o⟩ s = p9 C ok o t b s (get s t):=by
 simp only [eG]
 split <;> simp_all [p9]
@[simp] theorem Io (o : aM) (t : Nat) (b v : Bool) (s : af) : p9 C ok o t b s (.bool v) = if v = b then aT C ok o ((t,.bool b) :: s) else some (ct o.dst (.ai []) ((t,.bool (!b)) :: s)):=rfl
@[simp] theorem Ip (o : aM) (t : Nat) (b : Bool) (s : af) : p9 C ok o t b s (.ai []) = some (ct o.dst (.ai []) s):=rfl
@[simp] theorem Ju (s : af) : dc (some s) = some (.normal,s):=rfl
@[simp] theorem Jt : dc none = none:=rfl
@[simp] theorem Js (c : Prop) [Decidable c] (a b : Option af) : dc (if c then a else b) = if c then dc a else dc b:=by split <;> rfl
@[simp] theorem JP (k : af→aX) (s : af) : cx k (some (.normal,s)) = k s:=rfl
@[simp] theorem JM (k : af→aX) (i : Nat) (s : af) : cx k (some (.exit i,s)) = some (.exit i,s):=rfl
@[simp] theorem JQ (k : af→aX) (s : af) : cx k (some (.ret,s)) = some (.ret,s):=rfl
@[simp] theorem JO (k : af→aX) : cx k none = none:=rfl
@[simp] theorem JN (k : af→aX) (c : Prop) [Decidable c] (a b : aX) : cx k (if c then a else b) = if c then cx k a else cx k b:=by split <;> rfl
@[simp] theorem GG (i : Nat) (s : af) : eJ i (some (.normal,s)) = some (.normal,s):=rfl
@[simp] theorem GC (i j : Nat) (s : af) : eJ i (some (.exit j,s)) = if j = i then some (.normal,s) else some (.exit j,s):=rfl
@[simp] theorem GH (i : Nat) (s : af) : eJ i (some (.ret,s)) = some (.ret,s):=rfl
@[simp] theorem GF (i : Nat) : eJ i none = none:=rfl
@[simp] theorem GD (i : Nat) (c : Prop) [Decidable c] (a b : aX) : eJ i (if c then a else b) = if c then eJ i a else eJ i b:=by split <;> rfl
@[simp] theorem JE (ks : List Nat) (s : af) : eX ks (some (.normal,s)) = some (.normal,keep ks s):=rfl
@[simp] theorem JB (ks : List Nat) (i : Nat) (s : af) : eX ks (some (.exit i,s)) = some (.exit i,s):=rfl
@[simp] theorem JF (ks : List Nat) (s : af) : eX ks (some (.ret,s)) = some (.ret,s):=rfl
@[simp] theorem JD (ks : List Nat) : eX ks none = none:=rfl
@[simp] theorem JC (ks : List Nat) (c : Prop) [Decidable c] (a b : aX) : eX ks (if c then a else b) = if c then eX ks a else eX ks b:=by split <;> rfl
def jE (rs : List RV) (n : Nat) : aX→Option Out
 | some (.exit _,_)=>none
 | some (_,s)=>if X.clean.aS (bJ rs s).1 = true∧(bJ rs s).1.any X.fA = false then some (jY (bJ rs s).1,gW 0 n (bJ rs s).2) else none
 | none=>none
def sM (rs : List RV) (n : Nat) (s : af) : Option Out:=if X.clean.aS (bJ rs s).1 = true∧(bJ rs s).1.any X.fA = false then some (jY (bJ rs s).1,gW 0 n (bJ rs s).2) else none
theorem bD {L : aN} {T : dF} {f : FuncId} {b : A} {rs : List RV} {n : Nat} (h : T f = some ⟨b,rs,n⟩) {xs : List X} (hl : xs.length = n) : ev L T f xs = jE rs n (aA (ev L T) (aP T) b (fG xs)):=by
 rw [A9 h]
 unfold pT
 rw [if_pos hl]
 rfl
@[simp] theorem Im (rs : List RV) (n : Nat) (s : af) : jE rs n (some (.ret,s)) = sM rs n s:=rfl
@[simp] theorem Il (rs : List RV) (n : Nat) (s : af) : jE rs n (some (.normal,s)) = sM rs n s:=rfl
@[simp] theorem Ik (rs : List RV) (n : Nat) : jE rs n none = none:=rfl
@[simp] theorem Ij (rs : List RV) (n : Nat) (c : Prop) [Decidable c] (a b : aX) : jE rs n (if c then a else b) = if c then jE rs n a else jE rs n b:=by split <;> rfl
@[simp] theorem JJ (d : Option Nat) (s : af) (r : X) (ps : List X) : gY d s (some (r,ps)) = some (ct d r s):=rfl
@[simp] theorem JI (d : Option Nat) (s : af) : gY d s none = none:=rfl
@[simp] theorem JH (d : Option Nat) (s : af) (c : Prop) [Decidable c] (a b : Option Out) : gY d s (if c then a else b) = if c then gY d s a else gY d s b:=by split <;> rfl
end
attribute [simp] sM aT fG oI oJ bJ gW post jY X.fA X.clean X.clean.aS X.clean.aC keep rH pn iE kA
end M
namespace M
open Go
def pH (f0 z bytes : Nat) : aN:=fun f xs=>if f = f0 then (match xs with
 | [.row .ak z' rows]=>if z' = z∧rows.length * bytes≤140737488355328∧hU rows = true∧(n4 rows = true∨rows = []) then some (.row .own z rows,[.dead]) else none
 | _=>none) else none
def gU (L L' : aN) : aN:=fun f xs=>match L f xs with
 | some o=>some o
 | none=>L' f xs
theorem uh [Bs] {P : Program} {L L' : aN} (h : L.Sound P) (h' : L'.Sound P) : (gU L L').Sound P:=fun f xs o e=>by
 unfold gU at e
 split at e
 ·rename_i o' e'
  cases e
  exact h f xs _ e'
 ·exact h' f xs _ e
end M
namespace M
open Go
def sv : X→Value
 | .int k n=>.int k n
 | .bool b=>.bool b
 | .str s=>.string s
 | _=>undef
theorem Fw {c : C} (h : scalar c.er = true) : c.val = sv c.er:=by
 cases c <;> first | rfl | (simp [C.er,scalar] at h)
def oM : X→Bool
 | .str s=>decide (s.size≤9223372036854775807)
 | x=>scalar x
def gX (f0 : FuncId) (g : List X→Option X) : aN:=fun f xs=>if f = f0 then (match g xs with
 | some r=>if xs.all scalar = true∧oM r = true then some (r,xs.map fun _=>.dead) else none
 | none=>none) else none
end M
namespace M
open Go Go.Sort
def fY [B : Bs] (w : World) : Prop:=∀ b,b < B.W0.heap.size→w.heap[b]? = B.W0.heap[b]?
theorem Aa [Bs] {P : Program} {f : FuncId} {xs : List X} {r : X} (hx : ∀ x∈xs,scalar x = true) (hr : oM r = true)
  (h : ∀ w,fY w→Calls P f (xs.map sv).toArray w fun e w'=>e = .returned (sv r)∧∃ k os,w' = grow (w.drewN k) os) : AC P f xs fun r' ps=>r' = r∧ps = xs.map fun _=>.dead:=by
 intro w zl zb cs e hA gh
 have hv : cs.map C.val = xs.map sv:=by
  rw [← e,List.map_map]
  exact List.map_congr_left fun c hc=>Fw (hx _ (e ▸ List.mem_map_of_mem hc))
 rw [hv]
 refine (h w fun b hb=>(gh b hb).1).mono fun e' w' ⟨he,k,os,hw⟩=>?_
 subst hw
 have hsz : w.heap.size≤(grow (w.drewN k) os).heap.size:=by simp [grow,World.drewN]
 have hs : ∃ c : C,c.er = r∧c.val = sv r∧c.ok (grow (w.drewN k) os) (Zf zl fun _ _=>False)∧c.bare∧∀ b k,¬ c.fp b k:=by
  cases r with
  | int k n=>exact ⟨.int k n,rfl,rfl,trivial,trivial,fun _ _ h=>h⟩
  | bool b=>exact ⟨.bool b,rfl,rfl,trivial,trivial,fun _ _ h=>h⟩
  | str s=>exact ⟨.str s,rfl,rfl,by simp [oM] at hr; exact hr,trivial,fun _ _ h=>h⟩
  | _=>simp [oM,scalar] at hr
 obtain ⟨c,c1,c2,c3,c4,c5⟩:=hs
 have s6 : Ext (fun b k=>∃ x∈cs,x.fp b k) w (grow (w.drewN k) os):=⟨rfl,rfl,rfl,hsz,fun b hb=>.inl (by
  show (w.heap ++ os)[b]? = w.heap[b]?
  exact Array.getElem?_append_left hb)⟩
 refine ⟨c,cs.map fun x=>.dead x.val,zl,⟨by rw [he,c2],by rw [List.map_map]; rfl,s6,⟨fun x hx'=>?_,fun x hx'=>?_,fun x hx' b k hf=>?_,fun b k hz=>Nat.lt_of_lt_of_le (hA.aR b k (hz.imp id fun h=>h.elim)) hsz,?_⟩,fun x hx' b k hf=>?_,fun _ _ h=>h,fun _ _ h=>.inl h⟩,c1,?_⟩
 ·rcases List.mem_cons.1 hx' with rfl | hx'
  ·exact c3
  ·obtain ⟨y,_,rfl⟩:=List.mem_map.1 hx'; trivial
 ·rcases List.mem_cons.1 hx' with rfl | hx'
  ·exact c4
  ·obtain ⟨y,_,rfl⟩:=List.mem_map.1 hx'; trivial
 ·rcases List.mem_cons.1 hx' with rfl | hx'
  ·exact (c5 b k hf).elim
  ·obtain ⟨y,_,rfl⟩:=List.mem_map.1 hx'; exact hf.elim
 ·refine List.pairwise_cons.2 ⟨fun x _ b k hf=>(c5 b k hf).elim,?_⟩
  refine List.pairwise_iff_getElem.2 fun i j hi hj _ b k hf=>?_
  obtain ⟨y,_,hy⟩:=List.mem_map.1 (List.getElem_mem hi)
  rw [← hy] at hf
  exact hf.elim
 ·rcases List.mem_cons.1 hx' with rfl | hx'
  ·exact (c5 b k hf).elim
  ·obtain ⟨y,_,rfl⟩:=List.mem_map.1 hx'; exact hf.elim
 ·rw [← e]
  simp [List.map_map,Function.comp_def,C.er]
theorem BV [Bs] {P : Program} {f0 : FuncId} {g : List X→Option X} (h : ∀ xs r,g xs = some r→∀ w,fY w→Calls P f0 (xs.map sv).toArray w fun e w'=>e = .returned (sv r)∧∃ k os,w' = grow (w.drewN k) os) : (gX f0 g).Sound P:=fun f xs o e=>by
 unfold gX at e
 split at e
 ·rename_i hf
  subst hf
  split at e
  ·rename_i r hr
   split at e
   ·rename_i hc
    cases e
    exact Aa (List.all_eq_true.1 hc.1) hc.2 (h xs r hr)
   ·cases e
  ·cases e
 ·cases e
theorem TabIs.same [B : Bs] {P : Program} {w : World} {n : String} {k : IntKind} {zs : List Int} (h : Lib.TabIs P B.W0 n k zs) (hw : fY w) : Lib.TabIs P w n k zs:=by
 unfold Lib.TabIs World.var? at h ⊢
 cases hg : P.globalNamed n with
 | none=>rw [hg] at h; cases h
 | some g =>
  rw [hg] at h
  simp only [Option.bind_some] at h ⊢
  have hlt : g < B.W0.heap.size:=by
   rcases Nat.lt_or_ge g B.W0.heap.size with h' | h'
   ·exact h'
   ·rw [Array.getElem?_eq_none h'] at h; cases h
  rw [hw g hlt]
  exact h
theorem zu {P : Program} {W : World} {name : String} {k : IntKind} {zs : List Int} {g : Nat} {t e : TypeId} {n : Nat}
  (hg : P.globalNamed name = some g) (hty : (P.globals[g]?).map (·.type) = some t) (ht : P.underlying t = some (.array n e)) (he : P.underlying e = some (.int k)) (hce : P.cellsOf e = 1) (hct : P.cellsOf t = n) :
  ∀ {l : List (String×DataW Unit)} {ps : List MemPlace},DataW.LaidVars P W l ps→(name,Lib.tabData k zs)∈l→Lib.TabIs P W name k zs
 | [],_,_,h=>by cases h
 | (nm,d) :: l,ps,h,hm=>by
  obtain ⟨g',t',cs,fuel,p,q,hg',ht',hvar,hd,hr,_⟩:=h
  rcases List.mem_cons.1 hm with hm | hm
  ·obtain ⟨rfl,rfl⟩:=Prod.mk.inj hm
   obtain rfl:=Option.some.inj (hg.symm.trans hg')
   obtain rfl:=Option.some.inj (hty.symm.trans ht')
   unfold Lib.TabIs
   rw [hvar,← Lib.cells_of_tab ht he hce hct hd]
  ·exact zu hg hty ht he hce hct hr hm
end M
namespace M
open Go
def lv : Ex×af→aX
 | (.normal,_)=>none
 | (.ret,s)=>some (.ret,s)
 | (.exit i,s)=>some (.exit i,s)
def lz {β γ : Type} (go : β→γ→γ ⊕ (Ex×af)) : List β→γ→γ ⊕ (Ex×af)
 | [],g=>.inl g
 | b :: l,g=>match go b g with
  | .inl g'=>lz go l g'
  | .inr o=>.inr o
theorem Dt {xt : Nat} {β γ : Type} {f : af→aX} (l : List β) (st : Nat→γ→af) (go : β→γ→γ ⊕ (Ex×af)) (E : γ→af) (Inv : Nat→γ→Prop) (g : γ) (h0 : Inv 0 g)
  (h : ∀ i b g,l[i]? = some b→i < l.length→Inv i g→f (st i g) = (match go b g with | .inl g'=>some (.normal,st (i + 1) g') | .inr o=>lv o))
  (hI : ∀ i b g g',l[i]? = some b→Inv i g→go b g = .inl g'→Inv (i + 1) g')
  (hend : ∀ g,Inv l.length g→f (st l.length g) = some (.exit xt,E g)) :
  bQ f (st 0 g) = match lz go l g with | .inl g'=>some (.exit xt,E g') | .inr o=>lv o:=by
 suffices H : ∀ (r : List β) (i : Nat) (g : γ),Inv i g→l.drop i = r→i≤l.length→bQ f (st i g) = match lz go r g with | .inl g'=>some (.exit xt,E g') | .inr o=>lv o from H l 0 g h0 rfl (Nat.zero_le _)
 intro r
 induction r with
 | nil =>
  intro i g hi hr hl
  have : i = l.length:=by
   have:=congrArg List.length hr
   simp at this
   omega
  subst this
  rw [ey,hend g hi]
  rfl
 | cons b r ih =>
  intro i g hi hr hl
  have hlt : i < l.length:=by
   rcases Nat.lt_or_ge i l.length with h | h
   ·exact h
   ·rw [List.drop_eq_nil_of_le h] at hr; cases hr
  have hb : l[i]? = some b:=by
   have:=List.drop_eq_getElem_cons hlt
   rw [hr] at this
   rw [List.getElem?_eq_getElem hlt]
   cases this; rfl
  have hr' : l.drop (i + 1) = r:=by
   have:=List.drop_eq_getElem_cons hlt
   rw [hr] at this
   cases this; rfl
  rw [ey,h i b g hb hlt hi]
  unfold lz
  cases hg : go b g with
  | inl g'=>exact ih (i + 1) g' (hI i b g g' hb hi hg) hr' hlt
  | inr o =>
   obtain ⟨e,s⟩:=o
   cases e <;> simp [cx,lv]
def ju {α : Type} (p : α→Bool) (l : List α) : Bool:=l.all p
theorem jv {α : Type} {p : α→Bool} {l : List α} : ju p l = true↔∀ x∈l,p x = true:=List.all_eq_true
theorem bu {n : Int} (h1 : -9223372036854775808≤n) (h2 : n≤9223372036854775807) : IntKind.i64.wrap n = n:=by
 simp only [IntKind.wrap,IntKind.signed,IntKind.bits,Bool.true_and,decide_eq_true_eq]
 split <;> rename_i h <;> simp at h <;> omega
theorem fE (n : Nat) (h : n < 9223372036854775807) : IntKind.i64.wrap (↑n + 1) = ↑n + 1:=bu (by omega) (by omega)
attribute [simp] base rz cO look lT jh jQ pq qI nW ez cV
abbrev aj:=List UInt8
@[simp] theorem JL (s : aj) : ByteArray.size ⟨s.toArray⟩ = s.length:=by simp [ByteArray.size]
@[simp] theorem str_inj (s t : aj) : ((⟨s.toArray⟩ : ByteArray) = ⟨t.toArray⟩)↔s = t:=by
 constructor
 ·intro h
  injection h with h
  simpa using congrArg Array.toList h
 ·rintro rfl; rfl
theorem gD (s t : aj) : (⟨s.toArray⟩ : ByteArray) ++ ⟨t.toArray⟩ = ⟨(s ++ t).toArray⟩:=by
 apply ByteArray.ext
 rw [ByteArray.data_append]
 simp
@[simp] def eS (s : aj) : List X:=[.str ⟨s.toArray⟩]
structure Wr where
 at_ : Int
 text : aj
 deriving DecidableEq
structure oU where
 cells : List aj
 pending : List Wr
 deriving DecidableEq
@[simp] def eW (w : Wr) : List X:=[.int .i64 w.at_,.str ⟨w.text.toArray⟩]
@[simp] def HN (m : Md) (d : oU) : List X:=[.row m 1 (d.cells.map eS),.row m 2 (d.pending.map eW)]
@[simp] theorem Jm (m : Md) (l : List aj) : X.aK m (l.map eS) = l.map eS:=by induction l <;> simp_all [X.aK,X.bR,X.md]
@[simp] theorem Jq (m : Md) (l : List Wr) : X.aK m (l.map eW) = l.map eW:=by induction l <;> simp_all [X.aK,X.bR,X.md]
@[simp] theorem G7 (l : List aj) : X.clean.aC (l.map eS) = true:=by induction l <;> simp_all [X.clean.aC,X.clean.aS,X.clean]
@[simp] theorem Hf (l : List Wr) : X.clean.aC (l.map eW) = true:=by induction l <;> simp_all [X.clean.aC,X.clean.aS,X.clean]
theorem DA {α β : Type} (l : List α) (e : α→β) (z : β) (g : β→β) {i : Nat} (hi : i < l.length) (hg : g z = e l[i]) :
  ((l.take i).map e ++ List.replicate (l.length - i) z).modify i g = (l.take (i + 1)).map e ++ List.replicate (l.length - (i + 1)) z:=by
 apply List.ext_getElem?
 intro j
 rw [List.getElem?_modify]
 rcases Nat.lt_trichotomy j i with h | h | h
 ·rw [List.getElem?_append_left (by simp; omega),List.getElem?_append_left (by simp; omega)]
  simp only [List.getElem?_map,List.getElem?_take,if_pos h,if_pos (Nat.lt_succ_of_lt h),if_neg (Nat.ne_of_gt h)]
  cases l[j]? <;> rfl
 ·subst h
  rw [List.getElem?_append_right (by simp; omega),List.getElem?_append_left (by simp; omega)]
  have : j - ((l.take j).map e).length = 0:=by simp; omega
  rw [this,List.getElem?_replicate_of_lt (by omega)]
  simp only [List.getElem?_map,List.getElem?_take,if_pos (Nat.lt_succ_self j),List.getElem?_eq_getElem hi,if_true,Option.map_some,← hg]
  rfl
 ·rw [List.getElem?_append_right (by simp; omega),List.getElem?_append_right (by simp; omega)]
  have h1 : j - ((l.take i).map e).length = j - i:=by simp; omega
  have h2 : j - ((l.take (i + 1)).map e).length = j - (i + 1):=by simp; omega
  rw [h1,h2,List.getElem?_replicate,List.getElem?_replicate]
  by_cases h3 : j < l.length
  ·rw [if_pos (by omega),if_pos (by omega)]
   simp only [Nat.ne_of_lt h,if_false]
   rfl
  ·rw [if_neg (by omega),if_neg (by omega)]
   rfl
def eL (rows : List (List X)) (i : Nat) (z : List X) : List (List X):=rows.take i ++ List.replicate (rows.length - i) z
@[simp] theorem Ig (rows : List (List X)) (i : Nat) (z : List X) : (eL rows i z).length = rows.length:=by simp [eL]; omega
@[simp] theorem Bd (rows : List (List X)) (i : Nat) (z : List X) (h : i < rows.length) : (eL rows i z)[i]? = some z:=by
 unfold eL
 rw [List.getElem?_append_right (by simp; omega),List.getElem?_replicate_of_lt (by simp; omega)]
@[simp] theorem Ie (rows : List (List X)) (i : Nat) (z : List X) (h : i < (eL rows i z).length) : (eL rows i z)[i] = z:=by
 have h' : i < rows.length:=by simpa using h
 have:=Bd rows i z h'
 rw [List.getElem?_eq_getElem h] at this
 exact Option.some.inj this
@[simp] theorem Ii (rows : List (List X)) (z : List X) : eL rows 0 z = List.replicate rows.length z:=by simp [eL]
@[simp] theorem Ic (rows : List (List X)) (i : Nat) (z : List X) (h : i = rows.length) : eL rows i z = rows:=by subst h; simp [eL]
@[simp] theorem Ih (rows : List (List X)) (i : Nat) (z : List X) (g : List X→List X) (h : i < rows.length) (hg : g z = rows[i]) : (eL rows i z).modify i g = eL rows (i + 1) z:=by
 have:=DA rows id z g h (by simpa using hg)
 simpa [eL] using this
def gb (new old : List (List X)) (i : Nat) : List (List X):=new.take i ++ old.drop i
@[simp] theorem wm (new old : List (List X)) (i : Nat) (h : new.length = old.length) : (gb new old i).length = old.length:=by simp [gb]; omega
@[simp] theorem Bc (new old : List (List X)) (i : Nat) (h : new.length = old.length) (hi : i < old.length) : (gb new old i)[i]? = old[i]?:=by
 unfold gb
 rw [List.getElem?_append_right (by simp; omega),List.getElem?_drop]
 congr 1
 simp; omega
@[simp] theorem Ia (new old : List (List X)) (i : Nat) (hl : i < (gb new old i).length) (h : new.length = old.length) : (gb new old i)[i] = old[i]'(by rw [wm _ _ _ h] at hl; exact hl):=by
 have hi : i < old.length:=by rw [wm _ _ _ h] at hl; exact hl
 have:=Bc new old i h hi
 rw [List.getElem?_eq_getElem hl,List.getElem?_eq_getElem hi] at this
 exact Option.some.inj this
@[simp] theorem Ib (new old : List (List X)) : gb new old 0 = old:=by simp [gb]
@[simp] theorem H9 (new old : List (List X)) (i : Nat) (h : new.length = old.length) (hi : i = old.length) : gb new old i = new:=by subst hi; rw [← h]; simp [gb]; omega
def gR (n : Nat) (out : aj) : aj:=if h : n = 0 then out else gR (n / 10) (UInt8.ofNat (48 + n % 10) :: out)
termination_by n
decreasing_by omega
def qE (k : Int) : aj:=if k≤0 then [109,48] else 109 :: gR k.toNat []
def nJ (n : Nat) (k : Int) : List aj:=(List.range n).map fun (i : Nat)=>qE (k + i)
def nK (n : Nat) (k : Int) : List Wr:=(List.range n).map fun (i : Nat)=>⟨k + 2 * i,qE (k + 2 * i + 1)⟩
@[simp] theorem I6 (n : Nat) (k : Int) : (nJ n k).length = n:=by simp [nJ]
@[simp] theorem I8 (n : Nat) (k : Int) : (nK n k).length = n:=by simp [nK]
@[simp] theorem I5 (n : Nat) (k : Int) (i : Nat) (h : i < (nJ n k).length) : (nJ n k)[i] = qE (k + i):=by simp [nJ]
@[simp] theorem I7 (n : Nat) (k : Int) (i : Nat) (h : i < (nK n k).length) : (nK n k)[i] = ⟨k + 2 * i,qE (k + 2 * i + 1)⟩:=by simp [nK]
def foldI {β γ : Type} (go : Nat→γ→β→γ) : Nat→List β→γ→γ
 | _,[],g=>g
 | i,b :: l,g=>foldI go (i + 1) l (go i g b)
theorem qC {xt : Nat} {β γ : Type} {f : af→aX} (l : List β) (st : Nat→γ→af) (go : Nat→γ→β→γ) (E : γ→af) (Inv : Nat→γ→Prop) (g : γ) (h0 : Inv 0 g)
  (h : ∀ i b g,l[i]? = some b→i < l.length→Inv i g→f (st i g) = some (.normal,st (i + 1) (go i g b)))
  (hI : ∀ i b g,l[i]? = some b→Inv i g→Inv (i + 1) (go i g b))
  (hend : ∀ g,Inv l.length g→f (st l.length g) = some (.exit xt,E g)) :
  bQ f (st 0 g) = some (.exit xt,E (foldI go 0 l g)):=by
 suffices H : ∀ (r : List β) (i : Nat) (g : γ),Inv i g→l.drop i = r→i≤l.length→bQ f (st i g) = some (.exit xt,E (foldI go i r g)) from H l 0 g h0 rfl (Nat.zero_le _)
 intro r
 induction r with
 | nil =>
  intro i g hi hr hl
  have : i = l.length:=by
   have:=congrArg List.length hr
   simp at this
   omega
  subst this
  rw [ey,hend g hi]
  rfl
 | cons b r ih =>
  intro i g hi hr hl
  have hlt : i < l.length:=by
   rcases Nat.lt_or_ge i l.length with h | h
   ·exact h
   ·rw [List.drop_eq_nil_of_le h] at hr; cases hr
  have hd:=List.drop_eq_getElem_cons hlt
  rw [hr] at hd
  have hb : l[i]? = some b:=by
   rw [List.getElem?_eq_getElem hlt]
   cases hd; rfl
  have hr' : l.drop (i + 1) = r:=by cases hd; rfl
  rw [ey,h i b g hb hlt hi]
  exact ih (i + 1) _ (hI i b g hb hi) hr' hlt
@[simp] theorem Jr (cs : List aj) (n : Nat) (t : aj) : (cs.map eS).modify n (fun x=>x.set 0 (X.str ⟨t.toArray⟩)) = (cs.set n t).map eS:=by
 apply List.ext_getElem?
 intro j
 rw [List.getElem?_modify,List.getElem?_map,List.getElem?_map,List.getElem?_set]
 by_cases h : n = j
 ·subst h
  simp only [if_true]
  by_cases h2 : n < cs.length
  ·simp [h2]
  ·simp [h2,List.getElem?_eq_none (Nat.le_of_not_lt h2)]
 ·simp only [h,if_false]
  cases cs[j]? <;> rfl
@[simp] def eB (b : Bool) : List X:=[.bool b]
@[simp] theorem Ja (m : Md) (l : List Bool) : X.aK m (l.map eB) = l.map eB:=by induction l <;> simp_all [X.aK,X.bR,X.md]
@[simp] theorem GR (l : List Bool) : X.clean.aC (l.map eB) = true:=by induction l <;> simp_all [X.clean.aC,X.clean.aS,X.clean]
theorem Ff (l : List aj) : hU (l.map eS) = true:=by induction l <;> simp_all [hU,scalar]
theorem Fg (l : List Wr) : hU (l.map eW) = true:=by induction l <;> simp_all [hU,scalar]
attribute [simp] Ff Fg
@[simp] theorem GQ (a b : List (List X)) : X.clean.aC (a ++ b) = (X.clean.aC a && X.clean.aC b):=by
 induction a with
 | nil=>simp [X.clean.aC]
 | cons e a ih=>simp [X.clean.aC,ih,Bool.and_assoc]
@[simp] theorem I9 (m : Md) (a b : List (List X)) : X.aK m (a ++ b) = X.aK m a ++ X.aK m b:=by
 induction a with
 | nil=>simp [X.aK]
 | cons e a ih=>simp [X.aK,ih]
structure bg where
 code : List UInt8
 i : Nat
 h : Int
 hi : i≤code.length
 hl : code.length≤9223372036854775807
@[simp] def eU (b : UInt8) : List X:=[.int .u8 (b.toNat : Int)]
@[simp] theorem Jp (m : Md) (l : List UInt8) : X.aK m (l.map eU) = l.map eU:=by induction l <;> simp_all [X.aK,X.bR,X.md]
@[simp] theorem He (l : List UInt8) : X.clean.aC (l.map eU) = true:=by induction l <;> simp_all [X.clean.aC,X.clean.aS,X.clean]
def aO (c : bg) : List X:=[.row .sl 1 (c.code.map eU),.int .i64 c.i,.int .i64 c.h]
@[simp] theorem HG (c : bg) : (aO c).length = 3:=rfl
@[simp] theorem HI (c : bg) : (aO c).take 3 = aO c:=rfl
@[simp] theorem HD (c : bg) : (aO c).drop 3 = []:=rfl
@[simp] theorem HH (ks : List Nat) (c : bg) : X.gT ks (aO c) = aO c:=rfl
@[simp] theorem HE (r : Nat) (p : Path) (c : bg) : X.cN r p (aO c) = aO c:=rfl
@[simp] theorem HF (r : Nat) (p : Path) (c : bg) : X.gQ r p (aO c) = aO c:=rfl
@[simp] theorem HC (c : bg) : X.clean.aS (aO c) = true:=by simp [aO,X.clean.aS,X.clean]
@[simp] theorem HB (c : bg) : X.bare.dH (aO c) = true:=by simp [aO,X.bare.dH,X.bare]
theorem vf (n : Int) : IntKind.i64.wrap (((n % 2 ^ IntKind.i64.bits).toNat &&& 255 % 2 ^ IntKind.i64.bits : Nat) : Int) = n % 256:=by
 have e : 255 % 2 ^ IntKind.i64.bits = 2 ^ 8 - 1:=by decide
 have e2 : (2 : Int) ^ IntKind.i64.bits = 18446744073709551616:=by decide
 rw [e,Nat.and_two_pow_sub_one_eq_mod,IntKind.wrap_i64,e2]
 omega
theorem Dr {xt : Nat} {γ : Type} {f : af→aX} (n : Nat) (st : Nat→γ→af) (Inv : Nat→γ→Prop) (E : γ→af) (g : γ) (h0 : Inv 0 g)
  (h : ∀ i g,i < n→Inv i g→∃ g',f (st i g) = some (.normal,st (i + 1) g')∧Inv (i + 1) g')
  (hend : ∀ g,Inv n g→f (st n g) = some (.exit xt,E g)) : ∃ g',Inv n g'∧bQ f (st 0 g) = some (.exit xt,E g'):=by
 suffices H : ∀ k i g,i + k = n→Inv i g→∃ g',Inv n g'∧bQ f (st i g) = some (.exit xt,E g') from H n 0 g (by omega) h0
 intro k
 induction k with
 | zero =>
  intro i g hi hI
  obtain rfl : i = n:=by omega
  exact ⟨g,hI,by rw [ey,hend g hI]; rfl⟩
 | succ k ih =>
  intro i g hi hI
  obtain ⟨g1,e1,B8⟩:=h i g (by omega) hI
  obtain ⟨g2,sW,e2⟩:=ih (i + 1) g1 (by omega) B8
  exact ⟨g2,sW,by rw [ey,e1]; exact e2⟩
end M
namespace M
open Go Go.RowKit
inductive Ty where
 | int (k : IntKind)
 | bool
 | str
 | row (ts : List Ty)
inductive di : Ty→X→Prop
 | int {k n} : (Lit.int k n).wf = true→di (.int k) (.int k n)
 | bool {b} : di .bool (.bool b)
 | str {s : ByteArray} : s.size≤maxLen→di .str (.str s)
 | row {ts xs} : xs.length≤maxLen→(∀ r : List X,r∈xs→r.length = ts.length)→(∀ (r : List X),r∈xs→∀ (j : Nat) ty x,ts[j]? = some ty→r[j]? = some x→di ty x)→di (.row ts) (.row .sl ts.length xs)
structure oV (w : World) (ty : Ty) (c : C) : Prop where
 cell : c.cell
 aZ : c.aZ
 fits : c.fits .sl
 ok : c.ok w (Zf (fun b _=>b < w.heap.size) fun _ _=>False)
 fp : ∀ b k,¬ c.fp b k
 mA : di ty c.er
def eM (w : World) : List Ty→List Value→List C→Prop
 | [],[],[]=>True
 | ty :: ts,v :: vs,c :: cs=>c.val = v∧oV w ty c∧eM w ts vs cs
 | _,_,_=>False
theorem wW {w : World} : ∀ {ts : List Ty} {vs : List Value} {cs : List C} {ts' : List Ty} {vs' : List Value} {cs' : List C},eM w ts vs cs→eM w ts' vs' cs'→eM w (ts ++ ts') (vs ++ vs') (cs ++ cs')
 | [],[],[],_,_,_,_,h=>h
 | _ :: _,_ :: _,_ :: _,_,_,_,⟨h1,h2,h3⟩,h=>⟨h1,h2,wW h3 h⟩
theorem wX {w : World} : ∀ {ts : List Ty} {vs : List Value} {cs : List C},eM w ts vs cs→vs.length = ts.length∧cs.length = ts.length∧vs = cs.map C.val
 | [],[],[],_=>⟨rfl,rfl,rfl⟩
 | _ :: _,_ :: _,_ :: _,⟨h1,h2,h3⟩=>by
  obtain ⟨e1,e2,e3⟩:=wX h3
  exact ⟨by simp [e1],by simp [e2],by simp [h1,← e3]⟩
theorem sS {w : World} : ∀ {ts : List Ty} {vs : List Value} {cs : List C},eM w ts vs cs→∀ {j : Nat},j < ts.length→∃ ty c,ts[j]? = some ty∧cs[j]? = some c∧vs[j]? = some c.val∧oV w ty c
 | ty :: ts,v :: vs,c :: cs,⟨h1,h2,h3⟩,0,_=>⟨ty,c,rfl,rfl,by simp [h1],h2⟩
 | ty :: ts,v :: vs,c :: cs,⟨h1,h2,h3⟩,j + 1,h=>by
  obtain ⟨ty,c,a1,a2,a3,a4⟩:=sS h3 (j:=j) (by simpa using h)
  exact ⟨ty,c,by simpa using a1,by simpa using a2,by simpa using a3,a4⟩
def lY (P : Program) (r : TypeId→Option (List Ty)) : Nat→List Field→Option (List Ty)
 | _,[]=>some []
 | o,f :: fs=>if f.offset = o then (r f.type).bind fun ts=>if ts.length = P.cellsOf f.type then (lY P r (o + ts.length) fs).map (ts ++ ·) else none else none
def dD (P : Program) : Nat→Bool→TypeId→Option (List Ty)
 | 0,_,_=>none
 | n + 1,deep,t=>match P.underlying t with
  | some .bool=>some [.bool]
  | some (.int k)=>some [.int k]
  | some .string=>some [.str]
  | some (.slice e)=>if deep then (dD P n true e).bind fun ts=>if ts.length = P.cellsOf e∧0 < P.cellsOf e then some [.row ts] else none else none
  | some (.struct fs)=>(lY P (dD P n deep) 0 fs.toList).bind fun ts=>if ts.length = P.cellsOf t then some ts else none
  | _=>none
section
variable {H : Type} {enc : TypeId×Value→H} {P : Program} {w : World} {sp : Nat→Bool} {held : Bool}
theorem zB {r : TypeId→Option (List Ty)} {cs : List Value}
  (hr : ∀ t ts fuel cs' x,r t = some ts→DataW.trod enc P w 0 sp held fuel t cs' = some x→(∀ v∈cs',v∈cs)→∃ Cs,eM w ts cs' Cs) :
  ∀ (fs : List Field) (o : Nat) (ts : List Ty),lY P r o fs = some ts→(∀ f∈fs,∃ fuel x,DataW.trod enc P w 0 sp held fuel f.type ((cs.drop f.offset).take (P.cellsOf f.type)) = some x) →
   ∃ Cs,eM w ts ((cs.drop o).take ts.length) Cs
 | [],o,ts,h,_=>by
  cases h
  exact ⟨[],by simp [eM]⟩
 | f :: fs,o,ts,h,hx=>by
  simp only [lY] at h
  split at h
  ·rename_i ho
   simp only [Option.bind_eq_some_iff] at h
   obtain ⟨t1,h1,h⟩:=h
   split at h
   ·rename_i hl
    simp only [Option.map_eq_some_iff] at h
    obtain ⟨t2,h2,rfl⟩:=h
    obtain ⟨fuel,x,hf⟩:=hx f (List.mem_cons_self ..)
    obtain ⟨C1,g1⟩:=hr _ _ _ _ _ h1 hf fun v hv=>List.mem_of_mem_drop (List.mem_of_mem_take hv)
    obtain ⟨C2,g2⟩:=zB hr fs _ _ h2 fun f hf=>hx f (List.mem_cons_of_mem _ hf)
    refine ⟨C1 ++ C2,?_⟩
    rw [List.length_append,List.take_add,List.drop_drop]
    rw [ho,← hl] at g1
    exact wW g1 g2
   ·cases h
  ·cases h
theorem Fo {w : World} {g o n m : Nat} {spot : Option Nat} {vs : List Value} (hn : 0 < n) (h : w.cells? 0 ((⟨g,o,spot⟩ : Addr).add (0 * m)) n = some vs) : spot = none:=by
 obtain ⟨_,hl,e3⟩:=World.cells?_some h
 have e4:=e3 0 hn
 have : ∃ v,vs[0]? = some v:=⟨vs[0],List.getElem?_eq_getElem (by omega)⟩
 obtain ⟨v,hv⟩:=this
 rw [hv] at e4
 have ha : ((⟨g,o,spot⟩ : Addr).add (0 * m)).add 0 = ⟨g,o,spot⟩:=by simp [Addr.add]
 rw [ha] at e4
 unfold World.cell? at e4
 cases spot with
 | none=>rfl
 | some k =>
  split at e4
  ·simp at e4
  ·cases e4
theorem trod_good : ∀ (n : Nat) (deep : Bool) (t : TypeId) (ts : List Ty),dD P n deep t = some ts→∀ (fuel : Nat) (cs : List Value) (x : DataW H×List MemPlace),DataW.trod enc P w 0 sp held fuel t cs = some x→∃ Cs,eM w ts cs Cs
 | 0,_,_,_,h,_,_,_,_=>by cases h
 | n + 1,deep,t,ts,h,fuel,cs,x,hx=>by
  simp only [dD] at h
  split at h
  ·rename_i hu
   cases h
   obtain ⟨b,rfl,rfl⟩:=DataW.trod_bool hu hx
   exact ⟨[.bool b],rfl,⟨trivial,trivial,trivial,trivial,fun _ _ h=>h,.bool⟩,trivial⟩
  ·rename_i k hu
   cases h
   obtain ⟨m,rfl,rfl,hw⟩:=DataW.trod_int hu hx
   exact ⟨[.int k m],rfl,⟨trivial,trivial,trivial,trivial,fun _ _ h=>h,.int hw⟩,trivial⟩
  ·rename_i hu
   cases h
   obtain ⟨s,rfl,rfl,hw⟩:=DataW.trod_string hu hx
   exact ⟨[.str s],rfl,⟨trivial,trivial,trivial,hw,fun _ _ h=>h,.str hw⟩,trivial⟩
  ·rename_i e hu
   split at h
   ·rename_i hd
    simp only [Option.bind_eq_some_iff] at h
    obtain ⟨te,h1,h⟩:=h
    split at h
    ·rename_i hl
     obtain ⟨hl,hpos⟩:=hl
     cases h
     rcases DataW.trod_slice hu hx with ⟨rfl,rfl⟩ | ⟨a,len,cap,elems,rest,m,rfl,rfl,rfl,_,hlc,hcm,hel,gf,_,_⟩
     ·refine ⟨[.row .sl te.length none 0 0 fun _ _=>.dead undef],rfl,⟨trivial,trivial,.inr (.inl rfl),⟨Nat.le_refl _,fun i j hi=>by omega,fun i j hi=>by omega,fun h=>(by cases h),fun i j hi=>by omega⟩,fun b k h=>(by cases h.1),?_⟩,trivial⟩
      exact di.row (xs:=[]) (by simp) (fun r hr=>by cases hr) (fun r hr=>by cases hr)
     ·obtain ⟨g,o,spot⟩:=a
      by_cases hl0 : len = 0
      ·subst hl0
       refine ⟨[.row .sl te.length (some (g,o,spot)) 0 cap fun _ _=>.dead undef],rfl,⟨trivial,trivial,.inr (.inl rfl),⟨hlc,fun i j hi=>by omega,fun i j hi=>by omega,fun h=>(by cases h),fun i j hi=>by omega⟩,fun b k h=>(by cases h.1),?_⟩,trivial⟩
       exact di.row (xs:=[]) (by simp) (fun r hr=>by cases hr) (fun r hr=>by cases hr)
      have CU : spot = none:=by
       have:=gf 0 (by omega)
       rw [List.getElem?_eq_getElem (by omega),Option.bind_eq_some_iff] at this
       obtain ⟨vs,e1,e2⟩:=this
       exact Fo hpos e1
      subst CU
      have hex : ∀ i,∃ (vs : List Value) (l : List C),i < len→w.cells? 0 ((⟨g,o,none⟩ : Addr).add (i * P.cellsOf e)) (P.cellsOf e) = some vs∧eM w te vs l:=fun i=>by
       by_cases hi : i < len
       ·have:=gf i hi
        rw [List.getElem?_eq_getElem (by omega),Option.bind_eq_some_iff] at this
        obtain ⟨vs,e1,e2⟩:=this
        obtain ⟨l,hl⟩:=trod_good n true _ _ h1 _ _ _ e2
        exact ⟨vs,l,fun _=>⟨e1,hl⟩⟩
       ·exact ⟨[],[],fun h=>(hi h).elim⟩
      let vs:=fun i=>(hex i).choose
      let l:=fun i=>(hex i).choose_spec.choose
      have hvl : ∀ i,i < len→w.cells? 0 ((⟨g,o,none⟩ : Addr).add (i * P.cellsOf e)) (P.cellsOf e) = some (vs i)∧eM w te (vs i) (l i):=fun i=>(hex i).choose_spec.choose_spec
      have hij : ∀ i j,i < len→j < te.length→∃ ty,te[j]? = some ty∧(l i)[j]? = some ((l i).getD j (.dead undef))∧w.cell? ⟨g,o + i * te.length + j,none⟩ = some ((l i).getD j (.dead undef)).val∧oV w ty ((l i).getD j (.dead undef)):=fun i j hi hj=>by
       obtain ⟨e1,e2⟩:=hvl i hi
       obtain ⟨ty,c,a1,a2,a3,a4⟩:=sS e2 hj
       have hc : (l i).getD j (.dead undef) = c:=by rw [List.getD_eq_getElem?_getD,a2]; rfl
       rw [hc]
       obtain ⟨_,_,e3⟩:=World.cells?_some e1
       have e4:=e3 j (by omega)
       rw [a3] at e4
       refine ⟨ty,a1,a2,?_,a4⟩
       rw [← e4]
       congr 1
       rw [hl]
       unfold Addr.add
       split <;> split <;> simp_all
      have hb : ∀ i j,i < len→j < te.length→g < w.heap.size:=fun i j hi hj=>by
       obtain ⟨_,_,_,h3,_⟩:=hij i j hi hj
       exact World.block_lt_of_cell? w _ h3
      refine ⟨[.row .sl te.length (some (g,o,none)) len cap fun i j=>(l i).getD j (.dead undef)],rfl,⟨trivial,trivial,.inr (.inl rfl),⟨hlc,fun i j hi hj=>⟨g,o,rfl,?_,fun _=>hb i j hi hj⟩,fun i j hi hj=>?_,fun h=>(by cases h),fun i j hi hj b k hf=>?_⟩,fun b k h=>(by cases h.1),?_⟩,trivial⟩
      ·obtain ⟨ty,_,_,h3,h4⟩:=hij i j hi hj
       exact h3
      ·obtain ⟨ty,_,_,h3,h4⟩:=hij i j hi hj
       exact ⟨h4.cell,h4.aZ,h4.fits,h4.ok⟩
      ·obtain ⟨ty,_,_,h3,h4⟩:=hij i j hi hj
       exact (h4.fp b k hf).elim
      ·refine di.row (by simpa using Nat.le_trans hlc hcm) (fun r hr=>?_) fun r hr j ty x hty tw=>?_
       ·simp only [List.mem_map,List.mem_range] at hr
        obtain ⟨i,_,rfl⟩:=hr
        simp
       ·simp only [List.mem_map,List.mem_range] at hr
        obtain ⟨i,hi,rfl⟩:=hr
        have hj : j < te.length:=by
         rcases Nat.lt_or_ge j te.length with h | h
         ·exact h
         ·rw [List.getElem?_eq_none h] at hty; cases hty
        obtain ⟨ty',e1,_,_,h4⟩:=hij i j hi hj
        rw [e1] at hty
        cases hty
        rw [List.getElem?_map,List.getElem?_range hj] at tw
        simp only [Option.map_some,Option.some.injEq] at tw
        subst tw
        exact h4.mA
    ·cases h
   ·cases h
  ·rename_i fs hu
   simp only [Option.bind_eq_some_iff] at h
   obtain ⟨te,h1,h⟩:=h
   split at h
   ·rename_i hl
    cases h
    obtain ⟨xs,m,rfl,rfl,hcs,hxl,gf⟩:=DataW.trod_struct hu hx
    obtain ⟨Cs,hC⟩:=zB (cs:=cs) (fun t ts' fuel cs' x hr ht hm=>trod_good n deep t ts' hr fuel cs' x ht) fs.toList 0 ts h1 fun f hf=>by
     obtain ⟨i,hi,rfl⟩:=List.getElem_of_mem hf
     have hi' : i < fs.size:=by simpa using hi
     have:=gf i (fs[i]) (by simp [hi'])
     rw [List.getElem?_eq_getElem (by omega)] at this
     exact ⟨_,_,by simpa using this⟩
    refine ⟨Cs,?_⟩
    rw [List.drop_zero,hl,← hcs,List.take_length] at hC
    exact hC
   ·cases h
  ·cases h
theorem uN : ∀ (n : Nat) (deep : Bool) (t : TypeId) (ts : List Ty),dD P n deep t = some ts→∀ (fuel : Nat) (cs : List Value) (x : DataW H×List MemPlace),DataW.trod enc P w 0 (fun _=>true) held fuel t cs = some x→DataW.trod enc P w 0 (fun b=>decide (b < w.heap.size)) held fuel t cs = some x
 | 0,_,_,_,h,_,_,_,_=>by cases h
 | n + 1,deep,t,ts,h,0,cs,x,hx=>by simp [DataW.trod] at hx
 | n + 1,deep,t,ts,h,fuel + 1,cs,x,hx=>by
  simp only [dD] at h
  split at h
  ·rename_i hu
   obtain ⟨b,rfl,rfl⟩:=DataW.trod_bool hu hx
   simp [DataW.trod,hu]
  ·rename_i k hu
   obtain ⟨m,rfl,rfl,hw⟩:=DataW.trod_int hu hx
   simp [DataW.trod,hu,hw]
  ·rename_i hu
   obtain ⟨s,rfl,rfl,hw⟩:=DataW.trod_string hu hx
   simp [DataW.trod,hu,hw]
  ·rename_i e hu
   split at h
   ·simp only [Option.bind_eq_some_iff] at h
    obtain ⟨te,h1,h⟩:=h
    split at h
    ·rename_i hl
     obtain ⟨hl,hpos⟩:=hl
     rcases DataW.trod_slice hu hx with ⟨rfl,rfl⟩ | ⟨a,len,cap,elems',rest',m,_,rfl,_⟩
     ·simp [DataW.trod,hu]
     ·unfold DataW.trod at hx ⊢
      simp only [hu] at hx ⊢
      split at hx
      ·rename_i hc
       rw [if_pos hc]
       simp only [Option.map_eq_some_iff,Option.bind_eq_some_iff,if_true] at hx ⊢
       obtain ⟨elems,he,rest,jK,rfl⟩:=hx
       have one : ∀ (i : Nat) (y : DataW H×List MemPlace),(w.cells? 0 (a.add (i * P.cellsOf e)) (P.cellsOf e)).bind (DataW.trod enc P w 0 (fun _=>true) held fuel e) = some y→(w.cells? 0 (a.add (i * P.cellsOf e)) (P.cellsOf e)).bind (DataW.trod enc P w 0 (fun b=>decide (b < w.heap.size)) held fuel e) = some y:=fun i y hv=>by
        simp only [Option.bind_eq_some_iff] at hv ⊢
        obtain ⟨cs',dV,hy'⟩:=hv
        exact ⟨cs',dV,uN n true _ _ h1 _ _ _ hy'⟩
       refine ⟨elems,mapM_carry he fun i y _ _ hv=>one i y hv,rest,?_,rfl⟩
       by_cases hb : a.block < w.heap.size
       ·rw [if_pos (by simpa using hb)]
        exact mapM_carry jK fun i y _ _ hv=>one (len + i) y hv
       ·rw [if_neg (by simpa using hb)]
        have : cap - len = 0:=by
         rcases Nat.eq_zero_or_pos (cap - len) with h | h
         ·exact h
         ·have h0:=mapM_some_get jK 0 0 (by simp [h])
          have hl' : 0 < rest.length:=by have:=mapM_some_length jK; simp at this; omega
          rw [List.getElem?_eq_getElem hl',Option.bind_eq_some_iff] at h0
          obtain ⟨vs,e1,_⟩:=h0
          have:=World.cells?_block e1 hpos
          refine (hb ?_).elim
          unfold Addr.add at this
          split at this <;> exact this
        rw [this] at jK
        exact jK
      ·cases hx
    ·cases h
   ·cases h
  ·rename_i fs hu
   simp only [Option.bind_eq_some_iff] at h
   obtain ⟨te,h1,h⟩:=h
   unfold DataW.trod at hx ⊢
   simp only [hu] at hx ⊢
   have each : ∀ (o : Nat) (l : List Field) (ts : List Ty),lY P (dD P n deep) o l = some ts→∀ f∈l,∃ t1,dD P n deep f.type = some t1:=by
    intro o l
    induction l generalizing o with
    | nil=>intro _ _ f hf; cases hf
    | cons f l ih =>
     intro ts h f' hf'
     simp only [lY] at h
     split at h
     ·simp only [Option.bind_eq_some_iff] at h
      obtain ⟨t1,e1,h⟩:=h
      split at h
      ·simp only [Option.map_eq_some_iff] at h
       obtain ⟨t2,e2,_⟩:=h
       rcases List.mem_cons.1 hf' with rfl | hf'
       ·exact ⟨t1,e1⟩
       ·exact ih _ _ e2 f' hf'
      ·cases h
     ·cases h
   split at hx
   ·rename_i hc
    rw [if_pos hc]
    simp only [Option.map_eq_some_iff] at hx ⊢
    obtain ⟨xs,hx,rfl⟩:=hx
    refine ⟨xs,mapM_carry hx fun f y hf _ hv=>?_,rfl⟩
    obtain ⟨t1,e1⟩:=each _ _ _ h1 f hf
    exact uN n deep _ _ e1 _ _ _ hv
   ·cases hx
  ·cases h
inductive eE where
 | one (ty : Ty)
 | agg (tys : List Ty)
inductive jo : eE→X→Prop
 | one {ty x} : di ty x→jo (.one ty) x
 | agg {tys : List Ty} {l : List X} : l.length = tys.length→(∀ (j : Nat) ty x,tys[j]? = some ty→l[j]? = some x→di ty x)→jo (.agg tys) (.agg l)
def iA (P : Program) (t : TypeId) : Option eE:=match P.underlying t with
 | some (.struct _)=>(dD P 20 true t).map .agg
 | some .bool=>some (.one .bool)
 | some (.int k)=>some (.one (.int k))
 | some .string=>some (.one .str)
 | some (.slice _)=>(dD P 20 true t).bind fun
  | [ty]=>some (.one ty)
  | _=>none
 | _=>none
theorem vl {c : C} (h1 : c.cell) (h2 : c.aZ) : c.bare:=by
 cases c <;> first | trivial | exact h2.elim
structure uZ (w : World) (a : eE) (v : Value) (c : C) : Prop where
 val : c.val = v
 ok : c.ok w (Zf (fun b _=>b < w.heap.size) fun _ _=>False)
 bare : c.bare
 fp : ∀ b k,¬ c.fp b k
 mA : jo a c.er
theorem p8 {ty : Ty} {cs : List Value} {Cs : List C} {v : Value} (h : eM w [ty] cs Cs) (e : cs = [v]) : ∃ c,uZ w (.one ty) v c:=by
 subst e
 match Cs,h with
 | [c],⟨h1,h2,_⟩=>exact ⟨c,h1,h2.ok,vl h2.cell h2.aZ,h2.fp,.one h2.mA⟩
theorem Am {r : Reach} {base : Nat} {t : TypeId} {v : Value} {d : DataW H} {p : List MemPlace} {a : eE} (ha : iA P t = some a) (hv : Value.okWide P w r base t v) (hd : DataW.Trod enc P w 0 sp held t v d p) : ∃ c,uZ w a v c:=by
 obtain ⟨fuel,hf⟩:=hd
 unfold iA at ha
 split at ha
 ·rename_i fs hu
  simp only [Option.map_eq_some_iff] at ha
  obtain ⟨ts,ht,rfl⟩:=ha
  unfold Value.okWide at hv
  rw [hu] at hv
  obtain ⟨cs,rfl,_,ts',_,_,hcell⟩:=hv
  obtain ⟨Cs,hC⟩:=trod_good _ _ _ _ ht _ _ _ hf
  obtain ⟨l1,l2,l3⟩:=wX hC
  have gf : ∀ j,j < Cs.length→∃ ty,ts[j]? = some ty∧oV w ty (Cs.getD j (.dead undef)):=fun j hj=>by
   obtain ⟨ty,c,a1,a2,a3,a4⟩:=sS hC (j:=j) (by omega)
   exact ⟨ty,a1,by rw [List.getD_eq_getElem?_getD,a2]; exact a4⟩
  refine ⟨.agg Cs.length fun j=>Cs.getD j (.dead undef),?_,⟨fun j hj=>?_,fun j hj b k hf=>?_⟩,fun j hj=>?_,fun b k ⟨j,hj,hf⟩=>?_,?_⟩
  ·show Value.agg _ = _
   congr 1
   apply Array.ext'
   show (List.range Cs.length).map (fun j=>(Cs.getD j (.dead undef)).val) = cs.toList
   have : (Value.agg cs).cells.toList = cs.toList:=rfl
   rw [← this,l3]
   letI : Bs:=⟨w⟩
   exact fD Cs _ C.val
  ·obtain ⟨_,_,h⟩:=gf j hj; exact ⟨h.cell,h.ok⟩
  ·obtain ⟨_,_,h⟩:=gf j hj; exact (h.fp b k hf).elim
  ·obtain ⟨_,_,h⟩:=gf j hj; exact vl h.cell h.aZ
  ·obtain ⟨_,_,h⟩:=gf j hj; exact h.fp b k hf
  ·refine jo.agg (by simpa using l2) fun j ty x hty hx=>?_
   have hj : j < Cs.length:=by
    rcases Nat.lt_or_ge j Cs.length with h | h
    ·exact h
    ·rw [List.getElem?_eq_none (by simpa using h)] at hx; cases hx
   obtain ⟨ty',e1,h⟩:=gf j hj
   rw [e1] at hty
   cases hty
   rw [List.getElem?_map,List.getElem?_range hj] at hx
   simp only [Option.map_some,Option.some.injEq] at hx
   subst hx
   exact h.mA
 ·rename_i hu
  cases ha
  obtain ⟨Cs,hC⟩:=trod_good 1 true t [.bool] (by simp [dD,hu]) _ _ _ hf
  obtain ⟨b,hb,_⟩:=DataW.trod_bool hu hf
  exact p8 hC (v:=v) (by
   unfold Value.okWide at hv; rw [hu] at hv
   unfold Cell.okWide at hv; rw [hu] at hv; unfold Cell.ok at hv; rw [hu] at hv
   cases v <;> first | rfl | (simp at hv; done))
 ·rename_i k hu
  cases ha
  obtain ⟨m,hb,_⟩:=DataW.trod_int hu hf
  obtain ⟨Cs,hC⟩:=trod_good 1 true t [.int k] (by simp [dD,hu]) _ _ _ hf
  exact p8 hC (v:=v) (by
   unfold Value.okWide at hv; rw [hu] at hv
   unfold Cell.okWide at hv; rw [hu] at hv; unfold Cell.ok at hv; rw [hu] at hv
   cases v <;> first | rfl | (simp at hv; done))
 ·rename_i hu
  cases ha
  obtain ⟨m,hb,_⟩:=DataW.trod_string hu hf
  obtain ⟨Cs,hC⟩:=trod_good 1 true t [.str] (by simp [dD,hu]) _ _ _ hf
  exact p8 hC (v:=v) (by
   unfold Value.okWide at hv; rw [hu] at hv
   unfold Cell.okWide at hv; rw [hu] at hv; unfold Cell.ok at hv; rw [hu] at hv
   cases v <;> first | rfl | (simp at hv; done))
 ·rename_i e hu
  simp only [Option.bind_eq_some_iff] at ha
  obtain ⟨ts,ht,ha⟩:=ha
  split at ha
  ·rename_i ty
   cases ha
   have hc : Cell.okWide P w r base t v:=by unfold Value.okWide at hv; rw [hu] at hv; exact hv
   have hv1 : v.cells.toList = [v]:=by
    unfold Cell.okWide at hc; rw [hu] at hc; unfold Cell.ok at hc; rw [hu] at hc
    cases v <;> first | rfl | (simp at hc; done)
   obtain ⟨Cs,hC⟩:=trod_good _ _ _ _ ht _ _ _ hf
   exact p8 hC hv1
  ·cases ha
 ·cases ha
def jq : List eE→List X→Prop
 | [],[]=>True
 | a :: as,x :: xs=>jo a x∧jq as xs
 | _,_=>False
theorem vg {r : Reach} {base : Nat} : ∀ {ts : List TypeId} {as : List eE} {vs : List Value} {ds : List (DataW H)} {p : List MemPlace},ts.map (iA P) = as.map some →
  (∀ (j : Nat) t v,ts[j]? = some t→vs[j]? = some v→Value.okWide P w r base t v)→DataW.TrodAll enc P w 0 sp held ts vs ds p →
  ∃ cs : List C,cs.map C.val = vs∧(∀ c∈cs,c.ok w (Zf (fun b _=>b < w.heap.size) fun _ _=>False)∧c.bare∧∀ b k,¬ c.fp b k)∧jq as (cs.map C.er)
 | [],[],[],[],_,_,_,_=>⟨[],rfl,fun _ h=>(by cases h),trivial⟩
 | t :: ts,a :: as,v :: vs,d :: ds,_,ha,hv,⟨p,q,h1,h2,_⟩=>by
  simp only [List.map_cons,List.cons.injEq] at ha
  obtain ⟨c,hc⟩:=Am ha.1 (hv 0 t v rfl rfl) h1
  obtain ⟨cs,e1,e2,e3⟩:=vg ha.2 (fun j t' v' ht b9=>hv (j + 1) t' v' (by simpa using ht) (by simpa using b9)) h2
  refine ⟨c :: cs,by simp [hc.val,e1],fun x hx=>?_,⟨hc.mA,e3⟩⟩
  rcases List.mem_cons.1 hx with rfl | hx
  ·exact ⟨hc.ok,hc.bare,hc.fp⟩
  ·exact e2 x hx
theorem AH {r : Reach} {base : Nat} {ts : List TypeId} {as : List eE} {vs : List Value} {ds : List (DataW H)} {p : List MemPlace} {f : FuncId} (ha : ts.map (iA P) = as.map some)
  (hv : ∀ (j : Nat) t v,ts[j]? = some t→vs[j]? = some v→Value.okWide P w r base t v) (hd : DataW.TrodAll enc P w 0 sp held ts vs ds p)
  (B2 : ∀ xs,jq as xs→@AC ⟨w⟩ P f xs fun r _=>r = .bool true) : Calls P f vs.toArray w fun e w'=>e = .returned (.bool true)∧Below w.heap.size w w':=by
 obtain ⟨cs,rfl,hcs,hc⟩:=vg ha hv hd
 refine (B2 _ hc w (fun b _=>b < w.heap.size) (fun _ _=>False) cs rfl ⟨fun x hx=>(hcs x hx).1,fun x hx=>(hcs x hx).2.1,fun x hx b k hf=>((hcs x hx).2.2 b k hf).elim,fun b k h=>h.elim id False.elim,?_⟩ fun b hb=>⟨rfl,fun k=>.inl hb⟩).mono fun e w' ⟨r,ps,aq,hD,hr⟩=>?_
 ·refine List.pairwise_iff_getElem.2 fun i j hi hj _ b k hf=>((hcs _ (List.getElem_mem hi)).2.2 b k hf).elim
 ·letI : Bs:=⟨w⟩
  have hr':=iM hr
  subst hr'
  exact ⟨hD.ends,(hD.ext.mono (S':=fun _ _=>False) fun b k ⟨x,hx,hf⟩ _=>(hcs x hx).2.2 b k hf).below⟩
theorem Al {t : TypeId} {a : eE} (h : iA P t = some a) : ∃ n deep ts,dD P n deep t = some ts:=by
 unfold iA at h
 split at h
 ·simp only [Option.map_eq_some_iff] at h
  obtain ⟨ts,ht,_⟩:=h
  exact ⟨_,_,ts,ht⟩
 ·rename_i hu; exact ⟨1,true,[.bool],by simp [dD,hu]⟩
 ·rename_i k hu; exact ⟨1,true,[.int k],by simp [dD,hu]⟩
 ·rename_i hu; exact ⟨1,true,[.str],by simp [dD,hu]⟩
 ·simp only [Option.bind_eq_some_iff] at h
  obtain ⟨ts,ht,_⟩:=h
  exact ⟨_,_,ts,ht⟩
 ·cases h
theorem zA {w' : World} (hb : Below w.heap.size w w') : ∀ {ts : List TypeId} {as : List eE} {vs : List Value} {ds : List (DataW H)} {p : List MemPlace},ts.map (iA P) = as.map some →
  DataW.TrodAll enc P w 0 (fun _=>true) held ts vs ds p→DataW.TrodAll enc P w' 0 (fun b=>decide (b < w.heap.size)) held ts vs ds p
 | [],[],[],[],_,_,h=>h
 | t :: ts,a :: as,v :: vs,d :: ds,_,ha,⟨p,q,⟨fuel,h1⟩,h2,e⟩=>by
  simp only [List.map_cons,List.cons.injEq] at ha
  obtain ⟨n,deep,tt,ht⟩:=Al ha.1
  have h3:=uN n deep t tt ht _ _ _ h1
  exact ⟨p,q,⟨fuel,DataW.trod_carry _ _ _ _ h3 fun m hm=>hb.same (DataW.trod_lt _ _ _ _ h3 m hm)⟩,zA hb ha.2 h2,e⟩
end
end M
namespace M
open Go
def ki (ts : List Ty) (r : List X) : Prop:=r.length = ts.length∧∀ (j : Nat) ty x,ts[j]? = some ty→r[j]? = some x→di ty x
theorem ki.nil {r : List X} (h : ki [] r) : r = []:=List.length_eq_zero_iff.1 h.1
theorem ki.cons {ty : Ty} {ts : List Ty} {r : List X} (h : ki (ty :: ts) r) : ∃ x r',r = x :: r'∧di ty x∧ki ts r':=by
 obtain ⟨h1,h2⟩:=h
 cases r with
 | nil=>cases h1
 | cons x r=>exact ⟨x,r,rfl,h2 0 ty x rfl rfl,by simpa using h1,fun j ty x ht hx=>h2 (j + 1) ty x (by simpa using ht) (by simpa using hx)⟩
theorem yb {α : Type} {e : α→List X} {ok : α→Prop} : ∀ {xs : List (List X)},(∀ r∈xs,∃ a,r = e a∧ok a)→∃ l : List α,xs = l.map e∧∀ a∈l,ok a
 | [],_=>⟨[],rfl,fun _ h=>by cases h⟩
 | r :: xs,h=>by
  obtain ⟨a,e1,e2⟩:=h r (List.mem_cons_self ..)
  obtain ⟨l,e3,e4⟩:=yb (fun r hr=>h r (List.mem_cons_of_mem _ hr))
  refine ⟨a :: l,by simp [e1,e3],fun b hb=>?_⟩
  rcases List.mem_cons.1 hb with rfl | hb
  ·exact e2
  ·exact e4 b hb
theorem AW {α : Type} (e : α→List X) (ok : α→Prop) {ts : List Ty} {x : X} (h : di (.row ts) x) (hr : ∀ r,ki ts r→∃ a,r = e a∧ok a) : ∃ l : List α,x = .row .sl ts.length (l.map e)∧l.length≤9223372036854775807∧∀ a∈l,ok a:=by
 cases h with
 | row h1 h2 h3 =>
  rename_i xs
  obtain ⟨l,rfl,hl⟩:=yb (e:=e) (ok:=ok) (xs:=xs) fun r hr'=>hr r ⟨h2 r hr',h3 r hr'⟩
  rw [List.length_map] at h1
  exact ⟨l,rfl,h1,hl⟩
theorem AO {ty : Ty} {x : X} (h : jo (.one ty) x) : di ty x:=by
 cases h with
 | one h=>exact h
theorem AP {a : eE} {as : List eE} {xs : List X} (h : jq (a :: as) xs) : ∃ x xs',xs = x :: xs'∧jo a x∧jq as xs':=by
 match xs,h with
 | x :: xs',⟨h1,h2⟩=>exact ⟨x,xs',rfl,h1,h2⟩
theorem AQ {xs : List X} (h : jq [] xs) : xs = []:=by
 match xs,h with
 | [],_=>rfl
structure Gq (d : oU) : Prop where
 hb : d.cells.length≤9223372036854775807
 hs : ∀ s∈d.cells,s.length≤9223372036854775807
 hb' : d.pending.length≤9223372036854775807
 hs' : ∀ s∈d.pending,s.text.length≤9223372036854775807
 hi : ∀ s∈d.pending,-9223372036854775808≤s.at_∧s.at_≤9223372036854775807
theorem AR {x : X} (h : di (.int .u8) x) : ∃ b : UInt8,x = .int .u8 (b.toNat : Int):=by
 cases h with
 | int h =>
  rename_i n
  have h' : (decide (IntKind.u8.min≤n) && decide (n≤IntKind.u8.max)) = true:=h
  rw [Bool.and_eq_true,decide_eq_true_eq,decide_eq_true_eq] at h'
  have h1 : 0≤n:=h'.1
  have h2 : n≤255:=h'.2
  refine ⟨UInt8.ofNat n.toNat,?_⟩
  rw [UInt8.toNat_ofNat']
  congr 1
  omega
theorem AU {x : X} (h : di (.row [.int .u8]) x) : ∃ l : List UInt8,x = .row .sl 1 (l.map eU)∧l.length≤9223372036854775807∧∀ b∈l,True :=
 AW eU (fun _=>True) h fun r hr=>by
  obtain ⟨x,r',rfl,h1,h2⟩:=hr.cons
  obtain rfl:=h2.nil
  obtain ⟨b,rfl⟩:=AR h1
  exact ⟨b,rfl,trivial⟩
end M
namespace M
open Go
theorem tV {γ : Type} {f : af→aX} (st : γ→af) (μ : γ→Nat) (Inv : γ→Prop) (E : γ→af)
  (h : ∀ g,Inv g→(∃ g',Inv g'∧f (st g) = some (.exit 0,E g'))∨∃ g',Inv g'∧μ g' < μ g∧f (st g) = some (.normal,st g')) (g : γ) (hg : Inv g) : ∃ g',Inv g'∧bQ f (st g) = some (.exit 0,E g'):=by
 suffices H : ∀ n g,μ g = n→Inv g→∃ g',Inv g'∧bQ f (st g) = some (.exit 0,E g') from H _ g rfl hg
 intro n
 induction n using Nat.strongRecOn with
 | ind n ih =>
  intro g hn hI
  rcases h g hI with ⟨g',h1,h2⟩ | ⟨g',h1,h2,h3⟩
  ·exact ⟨g',h1,by rw [ey,h2]; rfl⟩
  ·obtain ⟨g2,h4,h5⟩:=ih _ (hn ▸ h2) g' rfl h1
   exact ⟨g2,h4,by rw [ey,h3]; exact h5⟩
end M
namespace M
open Go
theorem uP (m : Nat) (h : m < 256) : gE [[.int .u8 (m : Int)]] = some [UInt8.ofNat m]:=by
 have:=uO [UInt8.ofNat m]
 have e : ((UInt8.ofNat m).toNat : Int) = m:=by
  rw [UInt8.toNat_ofNat']
  omega
 simp only [List.map_cons,List.map_nil,e] at this
 exact this
theorem uR {n : Int} (h1 : 0≤n) (h2 : n < 256) : IntKind.u8.wrap n = n:=by
 simp only [IntKind.wrap,IntKind.signed,IntKind.bits,Bool.false_and,Bool.false_eq_true,if_false]
 omega
def ay (n : Nat) : aj:=Lib.decDigits n
theorem yd : ∀ (n : Nat) (out : aj),n≠0→gR n out = ay n ++ out:=by
 intro n
 induction n using Nat.strongRecOn with
 | ind n ih =>
  intro out h
  unfold gR ay
  rw [dif_neg h,Lib.decDigits]
  by_cases h1 : n < 10
  ·have e : n / 10 = 0:=by omega
   have e2 : n % 10 = n:=by omega
   rw [dif_pos h1,e,e2]
   unfold gR
   rw [dif_pos rfl]
   rfl
  ·rw [dif_neg h1,ih (n / 10) (by omega) _ (by omega)]
   unfold ay
   rw [List.append_assoc]
   rfl
theorem vQ : ay 0 = [48]:=by unfold ay; rw [Lib.decDigits]; rfl
theorem dZ (k : Nat) : ∀ (n : Nat),n < 10 ^ (k + 1)→(ay n).length≤k + 1:=by
 induction k with
 | zero =>
  intro n h
  unfold ay
  rw [Lib.decDigits,dif_pos (by simpa using h)]
  simp
 | succ k ih =>
  intro n h
  unfold ay
  rw [Lib.decDigits]
  by_cases h1 : n < 10
  ·rw [dif_pos h1]; simp
  ·rw [dif_neg h1,List.length_append]
   have:=ih (n / 10) (by rw [Nat.pow_succ] at h; omega)
   unfold ay at this
   simp only [List.length_cons,List.length_nil]
   omega
theorem tK (n : Nat) : Lib.itoa (n : Int) = ay n:=by
 unfold Lib.itoa ay
 rw [if_neg (by omega)]
 rfl
def nE : List X→Option X
 | [.int .i64 n]=>if -9223372036854775808≤n∧n≤9223372036854775807 then some (.str ⟨(Go.Lib.itoa n).toArray⟩) else none
 | _=>none
theorem C7 (f : FuncId) (n : Nat) (h : n < 10 ^ 18) : gX f nE f [.int .i64 (n : Int)] = some (.str ⟨(ay n).toArray⟩,[.dead]):=by
 have h1 : (n : Int)≤9223372036854775807:=by omega
 have h2:=dZ 17 n (by omega)
 simp [gX,nE,tK,scalar,oM,h1]
 omega
end M
namespace M
open Go
def bI (n : Int) : Prop:=-9223372036854775808≤n∧n≤9223372036854775807
def bS (s : aj) : Prop:=s.length≤9223372036854775807
def bB (_ : Bool) : Prop:=True
def bL {α : Type} (b : α→Prop) (l : List α) : Prop:=l.length≤9223372036854775807∧∀ a∈l,b a
@[simp] def eI (n : Int) : List X:=[.int .i64 n]
@[simp] theorem Jg (m : Md) (l : List Int) : X.aK m (l.map eI) = l.map eI:=by induction l <;> simp_all [X.aK,X.bR,X.md]
@[simp] theorem GY (l : List Int) : X.clean.aC (l.map eI) = true:=by induction l <;> simp_all [X.clean.aC,X.clean.aS,X.clean]
structure kj where
 name : aj
 value : aj
 deriving DecidableEq
@[simp] def dI (a : kj) : List X:=[.str ⟨(a.name).toArray⟩,.str ⟨(a.value).toArray⟩]
@[simp] theorem Jf (m : Md) (l : List kj) : X.aK m (l.map dI) = l.map dI:=by induction l <;> simp_all [X.aK,X.bR,X.md]
@[simp] theorem GX (l : List kj) : X.clean.aC (l.map dI) = true:=by induction l <;> simp_all [X.clean.aC,X.clean.aS,X.clean]
structure vj (x : kj) : Prop where
 II : bS x.name
 IZ : bS x.value
structure gG where
 status : Int
 fields : List kj
 body : aj
 deriving DecidableEq
@[simp] def pP (m : Md) (a : gG) : List X:=[.int .i64 a.status,.row m 2 ((a.fields).map dI),.str ⟨(a.body).toArray⟩]
@[simp] theorem Jl (m m' : Md) (l : List gG) : X.aK m (l.map (pP m')) = l.map (pP m):=by induction l <;> simp_all [X.aK,X.bR,X.md]
@[simp] theorem G6 (l : List gG) : X.clean.aC (l.map (pP .own)) = true:=by induction l <;> simp_all [X.clean.aC,X.clean.aS,X.clean]
@[simp] theorem Hq (l : List gG) : X.clean.aC (l.map (pP .sl)) = true:=by induction l <;> simp_all [X.clean.aC,X.clean.aS,X.clean]
structure o9 (x : gG) : Prop where
 IX : bI x.status
 Df : (bL vj) x.fields
 Dc : bS x.body
structure Rq where
 method : Int
 path : aj
 fields : List kj
 body : aj
 deriving DecidableEq
@[simp] def pO (m : Md) (a : Rq) : List X:=[.int .i64 a.method,.str ⟨(a.path).toArray⟩,.row m 2 ((a.fields).map dI),.str ⟨(a.body).toArray⟩]
@[simp] theorem Jk (m m' : Md) (l : List Rq) : X.aK m (l.map (pO m')) = l.map (pO m):=by induction l <;> simp_all [X.aK,X.bR,X.md]
@[simp] theorem G5 (l : List Rq) : X.clean.aC (l.map (pO .own)) = true:=by induction l <;> simp_all [X.clean.aC,X.clean.aS,X.clean]
@[simp] theorem Hp (l : List Rq) : X.clean.aC (l.map (pO .sl)) = true:=by induction l <;> simp_all [X.clean.aC,X.clean.aS,X.clean]
structure o8 (x : Rq) : Prop where
 IG : bI x.method
 Dh : bS x.path
 Df : (bL vj) x.fields
 Dc : bS x.body
structure Ob where
 path : aj
 names : List aj
 values : List aj
 resp : gG
 t : Int
 deriving DecidableEq
@[simp] def pN (m : Md) (a : Ob) : List X:=[.str ⟨(a.path).toArray⟩,.row m 1 ((a.names).map eS),.row m 1 ((a.values).map eS),.int .i64 a.resp.status,.row m 2 ((a.resp.fields).map dI),.str ⟨(a.resp.body).toArray⟩,.int .i64 a.t]
@[simp] theorem Ji (m m' : Md) (l : List Ob) : X.aK m (l.map (pN m')) = l.map (pN m):=by induction l <;> simp_all [X.aK,X.bR,X.md]
@[simp] theorem G0 (l : List Ob) : X.clean.aC (l.map (pN .own)) = true:=by induction l <;> simp_all [X.clean.aC,X.clean.aS,X.clean]
@[simp] theorem Hl (l : List Ob) : X.clean.aC (l.map (pN .sl)) = true:=by induction l <;> simp_all [X.clean.aC,X.clean.aS,X.clean]
structure rV (x : Ob) : Prop where
 Dh : bS x.path
 IJ : (bL bS) x.names
 I0 : (bL bS) x.values
 tM : o9 x.resp
 tN : bI x.t
structure Kp where
 obj : Ob
 at_ : Int
 seq : Int
 deriving DecidableEq
@[simp] def kG (m : Md) (a : Kp) : List X:=[.str ⟨(a.obj.path).toArray⟩,.row m 1 ((a.obj.names).map eS),.row m 1 ((a.obj.values).map eS),.int .i64 a.obj.resp.status,.row m 2 ((a.obj.resp.fields).map dI),.str ⟨(a.obj.resp.body).toArray⟩,.int .i64 a.obj.t,.int .i64 a.at_,.int .i64 a.seq]
@[simp] theorem Jh (m m' : Md) (l : List Kp) : X.aK m (l.map (kG m')) = l.map (kG m):=by induction l <;> simp_all [X.aK,X.bR,X.md]
@[simp] theorem GZ (l : List Kp) : X.clean.aC (l.map (kG .own)) = true:=by induction l <;> simp_all [X.clean.aC,X.clean.aS,X.clean]
@[simp] theorem Hj (l : List Kp) : X.clean.aC (l.map (kG .sl)) = true:=by induction l <;> simp_all [X.clean.aC,X.clean.aS,X.clean]
structure Ap (x : Kp) : Prop where
 Dg : rV x.obj
 Da : bI x.at_
 Di : bI x.seq
structure At (x : Wr) : Prop where
 Da : bI x.at_
 IY : bS x.text
structure An (x : oU) : Prop where
 IB : (bL bS) x.cells
 IQ : (bL At) x.pending
structure Bn where
 kind : Int
 a : aj
 b : aj
 t : Int
 deriving DecidableEq
@[simp] def mF (a : Bn) : List X:=[.int .i64 a.kind,.str ⟨(a.a).toArray⟩,.str ⟨(a.b).toArray⟩,.int .i64 a.t]
@[simp] theorem Jb (m : Md) (l : List Bn) : X.aK m (l.map mF) = l.map mF:=by induction l <;> simp_all [X.aK,X.bR,X.md]
@[simp] theorem GS (l : List Bn) : X.clean.aC (l.map mF) = true:=by induction l <;> simp_all [X.clean.aC,X.clean.aS,X.clean]
structure vi (x : Bn) : Prop where
 xY : bI x.kind
 C9 : bS x.a
 Iz : bS x.b
 tN : bI x.t
structure Sh where
 mD : oU
 ud : List Kp
 kr : List Bn
 next : Int
 seq : Int
 deriving DecidableEq
@[simp] def pQ (m : Md) (a : Sh) : List X:=[.row m 1 ((a.mD.cells).map eS),.row m 2 ((a.mD.pending).map eW),.row m 9 ((a.ud).map (kG m)),.row m 4 ((a.kr).map mF),.int .i64 a.next,.int .i64 a.seq]
@[simp] theorem Jo (m m' : Md) (l : List Sh) : X.aK m (l.map (pQ m')) = l.map (pQ m):=by induction l <;> simp_all [X.aK,X.bR,X.md]
@[simp] theorem G9 (l : List Sh) : X.clean.aC (l.map (pQ .own)) = true:=by induction l <;> simp_all [X.clean.aC,X.clean.aS,X.clean]
@[simp] theorem Hs (l : List Sh) : X.clean.aC (l.map (pQ .sl)) = true:=by induction l <;> simp_all [X.clean.aC,X.clean.aS,X.clean]
structure As (x : Sh) : Prop where
 IC : An x.mD
 IM : (bL Ap) x.ud
 Db : (bL vi) x.kr
 IK : bI x.next
 Di : bI x.seq
structure Fl where
 q : Rq
 who : List Int
 old : Ob
 xl : Bool
 deriving DecidableEq
@[simp] def mI (m : Md) (a : Fl) : List X:=[.int .i64 a.q.method,.str ⟨(a.q.path).toArray⟩,.row m 2 ((a.q.fields).map dI),.str ⟨(a.q.body).toArray⟩,.row m 1 ((a.who).map eI),.str ⟨(a.old.path).toArray⟩,.row m 1 ((a.old.names).map eS),.row m 1 ((a.old.values).map eS),.int .i64 a.old.resp.status,.row m 2 ((a.old.resp.fields).map dI),.str ⟨(a.old.resp.body).toArray⟩,.int .i64 a.old.t,.bool a.xl]
@[simp] theorem Je (m m' : Md) (l : List Fl) : X.aK m (l.map (mI m')) = l.map (mI m):=by induction l <;> simp_all [X.aK,X.bR,X.md]
@[simp] theorem GW (l : List Fl) : X.clean.aC (l.map (mI .own)) = true:=by induction l <;> simp_all [X.clean.aC,X.clean.aS,X.clean]
@[simp] theorem Hi (l : List Fl) : X.clean.aC (l.map (mI .sl)) = true:=by induction l <;> simp_all [X.clean.aC,X.clean.aS,X.clean]
structure Ao (x : Fl) : Prop where
 tL : o8 x.q
 I1 : (bL bI) x.who
 IP : rV x.old
 IE : bB x.xl
structure Se where
 q : Rq
 resp : gG
 t : Int
 deriving DecidableEq
@[simp] def mK (m : Md) (a : Se) : List X:=[.int .i64 a.q.method,.str ⟨(a.q.path).toArray⟩,.row m 2 ((a.q.fields).map dI),.str ⟨(a.q.body).toArray⟩,.int .i64 a.resp.status,.row m 2 ((a.resp.fields).map dI),.str ⟨(a.resp.body).toArray⟩,.int .i64 a.t]
@[simp] theorem Jn (m m' : Md) (l : List Se) : X.aK m (l.map (mK m')) = l.map (mK m):=by induction l <;> simp_all [X.aK,X.bR,X.md]
@[simp] theorem G8 (l : List Se) : X.clean.aC (l.map (mK .own)) = true:=by induction l <;> simp_all [X.clean.aC,X.clean.aS,X.clean]
@[simp] theorem Hr (l : List Se) : X.clean.aC (l.map (mK .sl)) = true:=by induction l <;> simp_all [X.clean.aC,X.clean.aS,X.clean]
structure Ar (x : Se) : Prop where
 tL : o8 x.q
 tM : o9 x.resp
 tN : bI x.t
structure Rp where
 client : Int
 q : Rq
 resp : gG
 kind : Int
 t : Int
 obj : Ob
 kr : Int
 deriving DecidableEq
@[simp] def mJ (m : Md) (a : Rp) : List X:=[.int .i64 a.client,.int .i64 a.q.method,.str ⟨(a.q.path).toArray⟩,.row m 2 ((a.q.fields).map dI),.str ⟨(a.q.body).toArray⟩,.int .i64 a.resp.status,.row m 2 ((a.resp.fields).map dI),.str ⟨(a.resp.body).toArray⟩,.int .i64 a.kind,.int .i64 a.t,.str ⟨(a.obj.path).toArray⟩,.row m 1 ((a.obj.names).map eS),.row m 1 ((a.obj.values).map eS),.int .i64 a.obj.resp.status,.row m 2 ((a.obj.resp.fields).map dI),.str ⟨(a.obj.resp.body).toArray⟩,.int .i64 a.obj.t,.int .i64 a.kr]
@[simp] theorem Jj (m m' : Md) (l : List Rp) : X.aK m (l.map (mJ m')) = l.map (mJ m):=by induction l <;> simp_all [X.aK,X.bR,X.md]
@[simp] theorem G4 (l : List Rp) : X.clean.aC (l.map (mJ .own)) = true:=by induction l <;> simp_all [X.clean.aC,X.clean.aS,X.clean]
@[simp] theorem Ho (l : List Rp) : X.clean.aC (l.map (mJ .sl)) = true:=by induction l <;> simp_all [X.clean.aC,X.clean.aS,X.clean]
structure Aq (x : Rp) : Prop where
 Dd : bI x.client
 tL : o8 x.q
 tM : o9 x.resp
 xY : bI x.kind
 tN : bI x.t
 Dg : rV x.obj
 Db : bI x.kr
structure Ca where
 ke : Sh
 wF : List Fl
 now : Int
 seen : List Se
 sent : List Rp
 deriving DecidableEq
@[simp] def pL (m : Md) (a : Ca) : List X:=[.row m 1 ((a.ke.mD.cells).map eS),.row m 2 ((a.ke.mD.pending).map eW),.row m 9 ((a.ke.ud).map (kG m)),.row m 4 ((a.ke.kr).map mF),.int .i64 a.ke.next,.int .i64 a.ke.seq,.row m 13 ((a.wF).map (mI m)),.int .i64 a.now,.row m 8 ((a.seen).map (mK m)),.row m 18 ((a.sent).map (mJ m))]
@[simp] theorem Jc (m m' : Md) (l : List Ca) : X.aK m (l.map (pL m')) = l.map (pL m):=by induction l <;> simp_all [X.aK,X.bR,X.md]
@[simp] theorem GU (l : List Ca) : X.clean.aC (l.map (pL .own)) = true:=by induction l <;> simp_all [X.clean.aC,X.clean.aS,X.clean]
@[simp] theorem Hg (l : List Ca) : X.clean.aC (l.map (pL .sl)) = true:=by induction l <;> simp_all [X.clean.aC,X.clean.aS,X.clean]
structure Gz (x : Ca) : Prop where
 IW : As x.ke
 ID : (bL Ao) x.wF
 IL : bI x.now
 IU : (bL Ar) x.seen
 IV : (bL Aq) x.sent
structure De where
 kind : Int
 client : Int
 q : Rq
 a : Int
 resp : gG
 mo : Bn
 keep : List Bool
 deriving DecidableEq
@[simp] def pM (m : Md) (a : De) : List X:=[.int .i64 a.kind,.int .i64 a.client,.int .i64 a.q.method,.str ⟨(a.q.path).toArray⟩,.row m 2 ((a.q.fields).map dI),.str ⟨(a.q.body).toArray⟩,.int .i64 a.a,.int .i64 a.resp.status,.row m 2 ((a.resp.fields).map dI),.str ⟨(a.resp.body).toArray⟩,.int .i64 a.mo.kind,.str ⟨(a.mo.a).toArray⟩,.str ⟨(a.mo.b).toArray⟩,.int .i64 a.mo.t,.row m 1 ((a.keep).map eB)]
@[simp] theorem Jd (m m' : Md) (l : List De) : X.aK m (l.map (pM m')) = l.map (pM m):=by induction l <;> simp_all [X.aK,X.bR,X.md]
@[simp] theorem GV (l : List De) : X.clean.aC (l.map (pM .own)) = true:=by induction l <;> simp_all [X.clean.aC,X.clean.aS,X.clean]
@[simp] theorem Hh (l : List De) : X.clean.aC (l.map (pM .sl)) = true:=by induction l <;> simp_all [X.clean.aC,X.clean.aS,X.clean]
structure GA (x : De) : Prop where
 xY : bI x.kind
 Dd : bI x.client
 tL : o8 x.q
 C9 : bI x.a
 tM : o9 x.resp
 IA : vi x.mo
 IF : (bL bB) x.keep
end M
namespace M
open Go
def fK {β : Type} (p : β→Bool) : Nat→List β→Option (Nat×β)
 | _,[]=>none
 | i,b :: l=>if p b = true then some (i,b) else fK p (i + 1) l
theorem wC {β : Type} {p : β→Bool} : ∀ {l : List β} {k i : Nat} {b : β},fK p k l = some (i,b)→k≤i∧l[i - k]? = some b∧p b = true
 | b' :: l,k,i,b,h=>by
  unfold fK at h
  split at h
  ·rename_i hp
   cases h
   exact ⟨Nat.le_refl _,by simp,hp⟩
  ·obtain ⟨h1,h2,h3⟩:=wC h
   refine ⟨by omega,?_,h3⟩
   rw [show i - k = (i - (k + 1)) + 1 by omega,List.getElem?_cons_succ]
   exact h2
theorem Ds {xt : Nat} {β : Type} {f : af→aX} (l : List β) (st : Nat→af) (p : β→Bool) (R : Nat→β→af) (E : af)
  (h : ∀ i b,l[i]? = some b→i < l.length→f (st i) = if p b = true then some (.ret,R i b) else some (.normal,st (i + 1)))
  (hend : f (st l.length) = some (.exit xt,E)) :
  bQ f (st 0) = (fK p 0 l).elim (some (.exit xt,E)) fun x=>some (.ret,R x.1 x.2):=by
 suffices H : ∀ (r : List β) (i : Nat),l.drop i = r→i≤l.length→bQ f (st i) = (fK p i r).elim (some (.exit xt,E)) fun x=>some (.ret,R x.1 x.2) from H l 0 rfl (Nat.zero_le _)
 intro r
 induction r with
 | nil =>
  intro i hr hi
  have : i = l.length:=by
   have:=congrArg List.length hr
   simp at this
   omega
  subst this
  rw [ey,hend]
  rfl
 | cons b r ih =>
  intro i hr hi
  have hb : l[i]? = some b:=by
   have:=congrArg (fun t : List β=>t[0]?) hr
   simpa using this
  have hlt : i < l.length:=(List.getElem?_eq_some_iff.1 hb).1
  have hd : l.drop (i + 1) = r:=by
   have:=congrArg List.tail hr
   simpa using this
  rw [ey,h i b hb hlt]
  unfold fK
  by_cases hp : p b = true
  ·simp [hp,lv]
  ·simp only [hp]
   exact ih (i + 1) hd hlt
end M
namespace M
open Go
def jW (n : Int) : aj:=if 0≤n∧n≤1000000 then ay n.toNat else []
def cT (b : UInt8) : Bool:=decide (48≤b.toNat∧b.toNat≤57)
def e9 (s : aj) : Nat:=s.foldl (fun x b=>10 * x + b.toNat - 48) 0
def bH (s : aj) : Option Nat:=if e9 s≤1000000∧ay (e9 s) = s then some (e9 s) else none
theorem BN {α β : Type} (f : β→α→β) (l : List α) (a : α) (b : β) : (l ++ [a]).foldl f b = f (l.foldl f b) a:=by simp
theorem sB (n : Nat) : ay n≠[]:=by
 intro h
 have : (ay n).length = Lib.nDigits n:=Lib.decDigits_length n
 rw [h] at this
 have h2:=Lib.nDigits_pos n
 rw [← this] at h2
 simp at h2
theorem sE (n : Nat) (h : ¬ n < 10) : ay n = ay (n / 10) ++ [UInt8.ofNat (48 + n % 10)]:=by
 unfold ay
 rw [Lib.decDigits,dif_neg h]
theorem sD (n : Nat) (h : n < 10) : ay n = [UInt8.ofNat (48 + n)]:=by
 unfold ay
 rw [Lib.decDigits,dif_pos h]
theorem kE (k : Nat) (h : k < 10) : (UInt8.ofNat (48 + k)).toNat = 48 + k:=by
 rw [UInt8.toNat_ofNat']
 omega
theorem rJ : ∀ n : Nat,e9 (ay n) = n:=by
 intro n
 induction n using Nat.strongRecOn with
 | ind n ih =>
  by_cases h : n < 10
  ·rw [sD n h]
   simp only [e9,List.foldl_cons,List.foldl_nil,kE n h]
   omega
  ·rw [sE n h]
   have:=ih (n / 10) (by omega)
   unfold e9 at this ⊢
   rw [BN,this,kE _ (by omega)]
   omega
theorem sA : ∀ n : Nat,ju cT (ay n) = true:=by
 intro n
 induction n using Nat.strongRecOn with
 | ind n ih =>
  rw [jv]
  by_cases h : n < 10
  ·rw [sD n h]
   intro x hx
   rw [List.mem_singleton.1 hx]
   unfold cT
   rw [kE n h]
   simp; omega
  ·rw [sE n h]
   intro x hx
   rcases List.mem_append.1 hx with hx | hx
   ·exact jv.1 (ih _ (by omega)) x hx
   ·rw [List.mem_singleton.1 hx]
    unfold cT
    rw [kE _ (by omega)]
    simp; omega
theorem jV {s : aj} {n : Nat} : bH s = some n↔n≤1000000∧ay n = s:=by
 unfold bH
 constructor
 ·intro h
  split at h
  ·rename_i hc
   cases h
   exact hc
  ·cases h
 ·rintro ⟨h1,rfl⟩
  rw [rJ,if_pos ⟨h1,rfl⟩]
theorem A0 (n : Nat) (h : n≤1000000) : (ay n).length≤7:=dZ 6 n (by omega)
theorem DQ (n : Nat) (h : n≤1000000) : jW (n : Int) = ay n:=by
 unfold jW
 rw [if_pos (by omega)]
 rfl
theorem DO (s : aj) (h : s.length≤7) : bH s = if s≠[]∧ju cT s = true∧jW (e9 s) = s then some (e9 s) else none:=by
 cases hr : bH s with
 | some n =>
  obtain ⟨h1,rfl⟩:=jV.1 hr
  rw [rJ,if_pos ⟨sB n,sA n,DQ n h1⟩]
 | none =>
  rw [if_neg]
  rintro ⟨h1,h2,h3⟩
  have : bH s = some (e9 s):=by
   refine jV.2 ?_
   unfold jW at h3
   split at h3
   ·rename_i hc
    exact ⟨by omega,h3⟩
   ·exact absurd h3.symm h1
  rw [this] at hr
  cases hr
theorem EJ : ∀ (n acc : Nat) (l : List UInt8),acc * 10 ^ Lib.nDigits n + n < 10000000000→Lib.parseUint10 acc (ay n ++ l) = Lib.parseUint10 (acc * 10 ^ Lib.nDigits n + n) l:=by
 intro n
 induction n using Nat.strongRecOn with
 | ind n ih =>
  intro acc l hn
  by_cases h : n < 10
  ·rw [sD n h]
   simp only [List.cons_append,List.nil_append,Lib.parseUint10,kE n h]
   rw [Lib.nDigits_small h] at hn ⊢
   rw [if_pos (by omega),if_neg (by omega),if_neg (by omega)]
   congr 1
   omega
  ·rw [sE n h,List.append_assoc]
   have e:=Lib.nDigits_big h
   rw [e,Nat.pow_succ] at hn ⊢
   have hm : acc * (10 ^ Lib.nDigits (n / 10) * 10) = acc * 10 ^ Lib.nDigits (n / 10) * 10:=by rw [Nat.mul_assoc]
   rw [hm] at hn ⊢
   rw [ih (n / 10) (by omega) acc _ (by omega)]
   have hd:=kE (n % 10) (by omega)
   simp only [List.cons_append,List.nil_append,Lib.parseUint10,hd]
   rw [if_pos (by omega),if_neg (by omega),if_neg (by omega)]
   congr 1
   omega
theorem vh (n : Nat) (h : n≤1000000) : Lib.atoiAll (ay n) = .ok (n : Int):=by
 cases hd : ay n with
 | nil=>exact absurd hd (sB n)
 | cons c r =>
  have hc:=jv.1 (sA n) c (by rw [hd]; exact List.mem_cons_self ..)
  simp only [cT,decide_eq_true_eq] at hc
  rw [Lib.atoiAll_plain c r (by omega) (by omega),← hd]
  unfold Lib.parseMag
  rw [if_neg (sB n)]
  have:=EJ n 0 [] (by omega)
  rw [List.append_nil] at this
  rw [this]
  simp only [Lib.parseUint10,Lib.signless]
  rw [if_neg (by omega)]
  simp
theorem DN (s : aj) (n : Int) (h : Lib.atoiAll s = .ok n) : (if 0≤n∧n≤1000000∧Lib.itoa n = s then some n.toNat else none) = bH s:=by
 split
 ·rename_i hc
  symm
  refine jV.2 ⟨by omega,?_⟩
  rw [← tK,← hc.2.2]
  congr 1
  omega
 ·rename_i hc
  cases hr : bH s with
  | none=>rfl
  | some m =>
   obtain ⟨h1,rfl⟩:=jV.1 hr
   rw [vh m h1] at h
   obtain rfl : (m : Int) = n:=by injection h
   exact absurd ⟨by omega,by omega,tK m⟩ hc
theorem DP (s : aj) (h : ∀ n,Lib.atoiAll s≠.ok n) : bH s = none:=by
 cases hr : bH s with
 | none=>rfl
 | some m =>
  obtain ⟨h1,rfl⟩:=jV.1 hr
  exact absurd (vh m h1) (h m)
theorem ym (s : aj) (h : 7 < s.length) : bH s = none:=by
 cases hr : bH s with
 | none=>rfl
 | some m =>
  obtain ⟨h1,rfl⟩:=jV.1 hr
  have:=A0 m h1
  omega
def br (c : UInt8) : aj→List aj
 | []=>[[]]
 | b :: s=>if b = c then [] :: br c s else match br c s with
  | w :: ws=>(b :: w) :: ws
  | []=>[[b]]
theorem ru (c : UInt8) (s : aj) : br c s≠[]:=by
 cases s with
 | nil=>simp [br]
 | cons b s =>
  unfold br
  split
  ·simp
  ·split <;> simp
end M
namespace M
open Go Go.RowKit
def ij (w w' : World) (c : C) : Prop:=(∀ Z,c.ok w' Z)∧c.bare∧∀ b k,c.fp b k→w.heap.size≤b
theorem Ab [Bs] {P : Program} {f : FuncId} {xs : List X} {r : X}
  (h : ∀ w zl zb cs,cs.map C.er = xs→ig w zl zb cs→fY w→Calls P f (cs.map C.val).toArray w fun e w'=>∃ c : C,e = .returned c.val∧c.er = r∧Below w.heap.size w w'∧ij w w' c) :
  AC P f xs fun r' ps=>r' = r∧ps = xs.map fun _=>.dead:=by
 intro w zl zb cs e hA gh
 refine (h w zl zb cs e hA fun b hb=>(gh b hb).1).mono fun e' w' ⟨c,he,hc,hb,c1,c2,c3⟩=>?_
 have s6 : Ext (fun b k=>∃ x∈cs,x.fp b k) w w':=⟨hb.os,hb.tape,hb.output,hb.size,fun b hl=>.inl (hb.block b hl)⟩
 refine ⟨c,cs.map fun x=>.dead x.val,zl,⟨he,by rw [List.map_map]; rfl,s6,⟨fun x hx'=>?_,fun x hx'=>?_,fun x hx' b k hf=>?_,fun b k hz=>Nat.lt_of_lt_of_le (hA.aR b k (hz.imp id fun h=>h.elim)) hb.size,?_⟩,fun x hx' b k hf=>?_,fun _ _ h=>h,fun _ _ h=>.inl h⟩,hc,?_⟩
 ·rcases List.mem_cons.1 hx' with rfl | hx'
  ·exact c1 _
  ·obtain ⟨y,_,rfl⟩:=List.mem_map.1 hx'; trivial
 ·rcases List.mem_cons.1 hx' with rfl | hx'
  ·exact c2
  ·obtain ⟨y,_,rfl⟩:=List.mem_map.1 hx'; trivial
 ·rcases List.mem_cons.1 hx' with rfl | hx'
  ·have h1:=c3 b k hf
   exact ⟨fun hz=>by have:=hA.aR b k (.inl hz); omega,fun hz=>hz⟩
  ·obtain ⟨y,_,rfl⟩:=List.mem_map.1 hx'; exact hf.elim
 ·refine List.pairwise_cons.2 ⟨fun x hx b k hf hf'=>?_,?_⟩
  ·obtain ⟨y,_,rfl⟩:=List.mem_map.1 hx; exact hf'
  ·refine List.pairwise_iff_getElem.2 fun i j hi hj _ b k hf=>?_
   obtain ⟨y,_,hy⟩:=List.mem_map.1 (List.getElem_mem hi)
   rw [← hy] at hf
   exact hf.elim
 ·rcases List.mem_cons.1 hx' with rfl | hx'
  ·exact .inr (c3 b k hf)
  ·obtain ⟨y,_,rfl⟩:=List.mem_map.1 hx'; exact hf.elim
 ·rw [← e]
  simp [List.map_map,Function.comp_def,C.er]
def fB (f0 : FuncId) (g : List X→Option X) : aN:=fun f xs=>if f = f0 then (match g xs with
 | some r=>some (r,xs.map fun _=>.dead)
 | none=>none) else none
theorem uc [Bs] {P : Program} {f0 : FuncId} {g : List X→Option X}
  (h : ∀ xs r,g xs = some r→∀ w zl zb cs,cs.map C.er = xs→ig w zl zb cs→fY w→Calls P f0 (cs.map C.val).toArray w fun e w'=>∃ c : C,e = .returned c.val∧c.er = r∧Below w.heap.size w w'∧ij w w' c) : (fB f0 g).Sound P:=fun f xs o e=>by
 unfold fB at e
 split at e
 ·rename_i hf
  subst hf
  split at e
  ·rename_i r hr
   cases e
   exact Ab (h xs r hr)
  ·cases e
 ·cases e
theorem sI {c : C} {s : ByteArray} (h : c.er = .str s) : c = .str s:=by cases c <;> simp [C.er] at h; rw [h]
theorem map_nil {l : List C} (h : l.map C.er = []) : l = []:=by simpa using h
theorem map_cons {l : List C} {x : X} {xs : List X} (h : l.map C.er = x :: xs) : ∃ c cs,l = c :: cs∧c.er = x∧cs.map C.er = xs:=by
 cases l with
 | nil=>simp at h
 | cons c cs=>simp at h; exact ⟨c,cs,rfl,h.1,h.2⟩
theorem wO {w w' : World} {s : ByteArray} (h : s.size≤9223372036854775807) : ij w w' (.str s):=⟨fun _=>h,trivial,fun _ _ h=>h.elim⟩
theorem BP {w w' : World} {k : IntKind} {n : Int} : ij w w' (.int k n):=⟨fun _=>trivial,trivial,fun _ _ h=>h.elim⟩
theorem wN {w w' : World} {b : Bool} : ij w w' (.bool b):=⟨fun _=>trivial,trivial,fun _ _ h=>h.elim⟩
def oP (l : List C) : C:=.ai l.length fun j=>l.getD j (.dead undef)
theorem ur {α β : Type} (l : List α) (d : α) (g : α→β) : ((List.range l.length).map fun j=>g (l.getD j d)) = l.map g:=by
 apply List.ext_getElem
 ·simp
 ·intro i h1 h2
  simp at h1
  simp [h1]
theorem zC (l : List C) : (oP l).er = .ai (l.map C.er):=by
 show X.ai _ = _
 rw [ur l _ C.er]
theorem zE (l : List C) : (oP l).val = .tuple (l.map C.val).toArray:=by
 show Value.tuple _ = _
 rw [ur l _ C.val]
theorem wP {w w' : World} {l : List C} (h : ∀ c∈l,ij w w' c∧c.cw∧∀ b k,¬ c.fp b k) : ij w w' (oP l):=by
 have hm : ∀ j,j < l.length→l.getD j (.dead undef)∈l:=fun j hj=>by simp [List.getD,hj]
 refine ⟨fun Z=>⟨fun j hj=>⟨(h _ (hm j hj)).2.1,(h _ (hm j hj)).1.1 Z⟩,fun j hj b k hf=>((h _ (hm j hj)).2.2 b k hf).elim⟩,fun j hj=>(h _ (hm j hj)).1.2.1,fun b k hf=>?_⟩
 obtain ⟨j,hj,hf⟩:=hf
 exact ((h _ (hm j hj)).2.2 b k hf).elim
theorem BQ {w w' : World} {g : Nat} {t : TypeId} {l : List ByteArray} (hg : w.heap.size≤g) (hb : w'.heap[g]? = some (.cells (l.map Value.string).toArray t (0,0))) (hs : ∀ s∈l,s.size≤9223372036854775807) :
  ij w w' (.row .own 1 (some (g,0,none)) l.length l.length fun i _=>.str (l.getD i ByteArray.empty)):=by
 have hm : ∀ j,j < l.length→l.getD j ByteArray.empty∈l:=fun j hj=>by simp [List.getD,hj]
 refine ⟨fun Z=>⟨Nat.le_refl _,fun i j hi hj=>⟨g,0,rfl,?_,fun h=>absurd rfl h⟩,fun i j hi hj=>⟨trivial,trivial,trivial,hs _ (hm i hi)⟩,fun _=>.inr ⟨g,0,_,t,(0,0),rfl,hb,?_,fun k _ _=>?_⟩,fun i j hi hj b k hf=>hf.elim⟩,trivial,fun b k hf=>?_⟩
 ·obtain rfl : j = 0:=by omega
  simp only [World.cell?,hb]
  simp [C.val,hi,Go.Value.oneCell']
 ·simp
 ·simp [World.frozen?,hb]
 ·obtain ⟨_,h | ⟨i,j,_,_,h⟩⟩:=hf
  ·obtain ⟨o,h⟩:=h
   have hgb:=congrArg Prod.fst (Option.some.inj h)
   have hgb : g = b:=hgb; exact hgb ▸ hg
  ·exact h.elim
theorem E8 (l : List ByteArray) (g cap : Nat) : (C.row .own 1 (some (g,0,none)) l.length cap fun i _=>.str (l.getD i ByteArray.empty)).er = .row .own 1 (l.map fun s=>[.str s]):=by
 show X.row _ _ _ = _
 congr 1
 have:=ur l ByteArray.empty fun s=>[X.str s]
 rw [← this]
 rfl
end M
namespace M
open Go
def uH (s : aj) : X:=.str ⟨s.toArray⟩
def ux (l : List aj) : X:=.row .own 1 (l.map eS)
def ry : List X→Option X
 | [.str s,.str c]=>if s.size < 4294967281∧1≤c.size then some (ux (Lib.split s.data.toList c.data.toList)) else none
 | _=>none
def pJ : List X→Option X
 | [.str s,.str c]=>if s.size < 4294967281 then some (.ai [uH (Lib.cut s.data.toList c.data.toList).1,uH (Lib.cut s.data.toList c.data.toList).2.1,.bool (Lib.cut s.data.toList c.data.toList).2.2]) else none
 | _=>none
def qK : List X→Option X
 | [.str s]=>if s.size≤9223372036854775807 then some (match bH s.data.toList with
  | some n=>.ai [.int .i64 n,.bool true]
  | none=>.ai [.int .i64 0,.bool false]) else none
 | _=>none
theorem count_nil (c : UInt8) : Lib.count [] [c] = 0:=by rw [Lib.count_one]; rfl
theorem Fm (c : UInt8) : ∀ s : aj,Lib.split s [c] = br c s:=by
 have key : ∀ (n : Nat) (s : aj),s.length≤n→Lib.splitK [c] 0 (Lib.count s [c]) s = br c s:=by
  intro n
  induction n with
  | zero =>
   intro s hs
   obtain rfl : s = []:=List.length_eq_zero_iff.1 (by omega)
   rw [count_nil]
   rfl
  | succ n ih =>
   intro s hs
   cases s with
   | nil=>rw [count_nil]; rfl
   | cons b s =>
    simp at hs
    have qx:=ih s (by omega)
    by_cases hb : b = c
    ·subst hb
     rw [Lib.count_cons_eq,Nat.add_comm]
     have hi : Lib.index (b :: s) [b] = 0:=Lib.index_first (i:=0) (Nat.zero_le _) (by simp [Lib.occAt]) (fun _ h=>absurd h (Nat.not_lt_zero _))
     simp only [Lib.splitK,hi,br]
     simp [qx]
    ·rw [Lib.count_cons_ne _ _ _ hb]
     have hnext : Lib.index (b :: s) [c] = if Lib.index s [c] = -1 then -1 else Lib.index s [c] + 1:=by
      have h:=Lib.index_drop (s:=b :: s) (sub:=[c]) (i:=1) (fun j hj=>by
       obtain rfl : j = 0:=by omega
       simp [Lib.occAt,List.isPrefixOf,Ne.symm hb]) (by simp)
      simp at h
      exact h
     rw [br,if_neg hb,← qx]
     cases hk : Lib.count s [c] with
     | zero=>simp [Lib.splitK]
     | succ k =>
      simp only [Lib.splitK,hnext]
      by_cases h1 : Lib.index s [c] = -1
      ·simp [h1]
      ·have h0 : 0≤Lib.index s [c]:=by
        have : -1≤Lib.index s [c]:=Lib.index_ge _ _
        omega
       have h2 : ¬ Lib.index s [c] + 1 = -1:=by omega
       have h3 : (Lib.index s [c] + 1).toNat = (Lib.index s [c]).toNat + 1:=by omega
       simp [h1,h2,h3]
 intro s
 exact key s.length s (Nat.le_refl _)
def bP (c : UInt8) : aj→Option (aj×aj)
 | []=>none
 | b :: s=>if b = c then some ([],s) else (bP c s).map fun p=>(b :: p.1,p.2)
theorem C4 (b c : UInt8) (s : aj) : Lib.index (b :: s) [c] = if b = c then 0 else if Lib.index s [c] = -1 then -1 else Lib.index s [c] + 1:=by
 by_cases hb : b = c
 ·subst hb
  rw [if_pos rfl]
  exact Lib.index_first (i:=0) (Nat.zero_le _) (by simp [Lib.occAt]) (fun _ h=>absurd h (Nat.not_lt_zero _))
 ·rw [if_neg hb]
  have h:=Lib.index_drop (s:=b :: s) (sub:=[c]) (i:=1) (fun j hj=>by
   obtain rfl : j = 0:=by omega
   simp [Lib.occAt,List.isPrefixOf,Ne.symm hb]) (by simp)
  simp at h
  exact h
theorem vO (c : UInt8) : ∀ s : aj,Lib.cut s [c] = match bP c s with
  | some p=>(p.1,p.2,true)
  | none=>(s,[],false)
 | []=>rfl
 | b :: s=>by
  have ih:=vO c s
  have h0 : -1≤Lib.index s [c]:=Lib.index_ge _ _
  unfold Lib.cut at ih ⊢
  rw [C4,bP]
  by_cases hb : b = c
  ·simp [hb]
  ·simp only [hb,if_false]
   by_cases h1 : Lib.index s [c] = -1
   ·rw [h1] at ih
    simp only [h1]
    cases hc : bP c s with
    | none=>simp
    | some p=>rw [hc] at ih; simp at ih
   ·have h2 : 0≤Lib.index s [c]:=by omega
    rw [if_pos h2] at ih
    rw [if_neg h1,if_pos (by omega)]
    have h3 : (Lib.index s [c] + 1).toNat = (Lib.index s [c]).toNat + 1:=by omega
    cases hc : bP c s with
    | none=>rw [hc] at ih; simp at ih
    | some p =>
     rw [hc] at ih
     simp at ih
     simp [h3,← ih.1,← ih.2]
end M
namespace M
open Go
def eg (c : UInt8) (f : aj→List aj) (s : aj) (i : Nat) (g : List aj×Nat) (b : Option UInt8) : List aj×Nat:=match b with
 | some b=>if b = c then (g.1 ++ f ((s.take i).drop g.2),i + 1) else g
 | none=>(g.1 ++ f ((s.take i).drop g.2),i + 1)
theorem rq (c : UInt8) : ∀ (cur rest : aj),(∀ b∈cur,b≠c)→br c (cur ++ rest) = match br c rest with
  | w :: ws=>(cur ++ w) :: ws
  | []=>[cur]
 | [],rest,_=>by
  cases h : br c rest with
  | nil=>exact absurd h (ru c rest)
  | cons w ws=>simpa using h
 | a :: cur,rest,h=>by
  rw [List.cons_append,br,if_neg (h a (List.mem_cons_self ..)),rq c cur rest fun b hb=>h b (List.mem_cons_of_mem _ hb)]
  cases br c rest <;> simp
theorem zf (c : UInt8) (cur : aj) (h : ∀ b∈cur,b≠c) : br c cur = [cur]:=by
 have:=rq c cur [] h
 simpa [br] using this
theorem uI : ∀ (p cur rest : aj),((p ++ (cur ++ rest)).take (p.length + cur.length)).drop p.length = cur
 | [],cur,rest=>by simp
 | a :: p,cur,rest=>by
  have:=uI p cur rest
  simp only [List.length_cons,List.cons_append,show p.length + 1 + cur.length = p.length + cur.length + 1 by omega,List.take_succ_cons,List.drop_succ_cons]
  exact this
theorem BM (c : UInt8) (f : aj→List aj) (s : aj) : foldI (eg c f s) 0 (s.map some ++ [none]) ([],0) = ((br c s).flatMap f,s.length + 1):=by
 suffices H : ∀ (rest p cur : aj) (out : List aj),s = p ++ cur ++ rest→(∀ b∈cur,b≠c)→foldI (eg c f s) (p.length + cur.length) (rest.map some ++ [none]) (out,p.length) = (out ++ (br c (cur ++ rest)).flatMap f,s.length + 1) by
  have:=H s [] [] [] rfl (by simp)
  simpa using this
 intro rest
 induction rest with
 | nil =>
  intro p cur out hs hc
  simp only [List.append_nil] at hs ⊢
  rw [zf c cur hc]
  subst hs
  have e1:=uI p cur []
  rw [List.append_nil] at e1
  simp [foldI,eg,e1]
 | cons b rest ih =>
  intro p cur out hs hc
  simp only [List.map_cons,List.cons_append,foldI]
  by_cases hb : b = c
  ·subst hb
   have e1 : (s.take (p.length + cur.length)).drop p.length = cur:=by subst hs; have:=uI p cur (b :: rest); rwa [← List.append_assoc] at this
   have:=ih (p ++ cur ++ [b]) [] (out ++ f cur) (by simp [hs]) (by simp)
   simp only [List.length_append,List.length_cons,List.length_nil,List.nil_append] at this
   simp only [eg,if_true,e1]
   rw [show p.length + cur.length + 1 = p.length + cur.length + (0 + 1) + 0 by omega,this,rq b cur (b :: rest) hc]
   simp [br]
  ·have:=ih p (cur ++ [b]) out (by simp [hs]) (by
    intro x hx
    rcases List.mem_append.1 hx with hx | hx
    ·exact hc x hx
    ·rw [List.mem_singleton.1 hx]; exact hb)
   simp only [List.length_append,List.length_cons,List.length_nil] at this
   simp only [eg,hb,if_false]
   rw [show p.length + cur.length + 1 = p.length + (cur.length + (0 + 1)) by omega,this]
   simp
@[simp] theorem HS (l : List UInt8) : l.map (fun b : UInt8=>[X.int IntKind.u8 (b.toNat : Int)]) = l.map eU:=rfl
@[simp] theorem JU (l : List UInt8) : gE (l.map eU) = some l:=uO l
theorem zp (c : UInt8) : ∀ s : aj,((br c s).map List.length).sum + (br c s).length = s.length + 1
 | []=>rfl
 | b :: s=>by
  have:=zp c s
  unfold br
  split
  ·simp; omega
  ·cases h : br c s with
   | nil=>exact absurd h (ru c s)
   | cons w ws=>rw [h] at this; simp at this ⊢; omega
theorem ze (c : UInt8) (s : aj) : ∀ w∈br c s,w.length≤s.length:=by
 intro w hw
 have h:=zp c s
 have h1 : w.length + 1≤((br c s).map List.length).sum + (br c s).length:=by
  clear h
  revert hw
  generalize br c s = l
  intro hw
  induction l with
  | nil=>cases hw
  | cons x l ih =>
   rcases List.mem_cons.1 hw with rfl | hw
   ·simp; omega
   ·have:=ih hw; simp; omega
 omega
end M
namespace M
end M
namespace M
@[simp] theorem GP (i : Nat) : ((i : Int) < 0) = False:=by simp
end M
namespace M
def yc {α : Type} (f : α→α) (l : List α) (i : Nat) : List α:=(l.take i).map f ++ l.drop i
@[simp] theorem I4 {α : Type} (f : α→α) (l : List α) (i : Nat) : (yc f l i).length = l.length:=by simp [yc]; omega
end M
namespace M
@[simp] theorem Dv (m : Md) : ∀ (i : Nat) (l : List (List X)),X.aK m (l.take i) = (X.aK m l).take i
 | 0,l=>by simp [X.aK]
 | i + 1,[]=>by simp [X.aK]
 | i + 1,a :: l=>by simp [X.aK,Dv m i l]
@[simp] theorem Du (m : Md) : ∀ (i : Nat) (l : List (List X)),X.aK m (l.drop i) = (X.aK m l).drop i
 | 0,l=>by simp
 | i + 1,[]=>by simp [X.aK]
 | i + 1,a :: l=>by simp [X.aK,Du m i l]
end M
namespace M
open Go
end M
namespace M
open Go Go.RowKit
theorem fY.cell [B : Bs] {w : World} (h : fY w) {b k : Nat} {v : Value} (hc : B.W0.cell? ⟨b,k,none⟩ = some v) : w.cell? ⟨b,k,none⟩ = some v:=by
 have hb : b < B.W0.heap.size:=by
  rcases Nat.lt_or_ge b B.W0.heap.size with h | h
  ·exact h
  ·simp [World.cell?,Array.getElem?_eq_none h] at hc
 have e:=h b hb
 simpa [World.cell?,e] using hc
theorem Au (w : World) : ∀ n,Below w.heap.size w (w.drewN n):=fun n=>⟨rfl,rfl,rfl,Nat.le_refl _,fun _ _=>rfl⟩
theorem zF {cs : List C} {s c : ByteArray} (h : cs.map C.er = [.str s,.str c]) : cs = [.str s,.str c]:=by
 obtain ⟨a,r,rfl,h1,h2⟩:=map_cons h
 obtain ⟨b,r',rfl,h3,h4⟩:=map_cons h2
 obtain rfl:=map_nil h4
 rw [sI h1,sI h3]
theorem DZ {cs : List C} {s : ByteArray} (h : cs.map C.er = [.str s]) : cs = [.str s]:=by
 obtain ⟨a,r,rfl,h1,h2⟩:=map_cons h
 obtain rfl:=map_nil h2
 rw [sI h1]
theorem Fk [B : Bs] {P : Program} {f0 : FuncId} {g1 : Nat} {t9 : TypeId} (hm : ∃ m,B.W0.cell? ⟨g1,0,none⟩ = some (.int .i64 m)) (hc : ∀ (s sep : ByteArray) (m : Int) (w : World),s.size < 4294967281→w.cell? ⟨g1,0,none⟩ = some (.int .i64 m)→1≤sep.size →
  Calls P f0 #[.string s,.string sep] w fun e w'=>e = .returned (.slice (some ⟨w.heap.size,0,none⟩) (Lib.countB s sep + 1) (Lib.countB s sep + 1))∧w' = w.alloc (.cells ((Lib.splitB sep 0 (Lib.countB s sep) s).map Value.string).toArray t9)) : (fB f0 ry).Sound P :=
 uc fun xs r hg w zl zb cs hx hA hs=>by
  unfold ry at hg
  split at hg
  ·rename_i s c
   split at hg
   ·rename_i hh
    cases hg
    obtain rfl:=zF hx
    obtain ⟨m,hm⟩:=hm
    have hlen:=Lib.splitB_all c hh.2 0 _ s rfl
    have xq:=Lib.splitB_data c 0 (Lib.countB s c) s
    refine (hc s c m w hh.1 (hs.cell hm) hh.2).mono fun e w' ⟨he,hw⟩=>?_
    subst hw
    refine ⟨.row .own 1 (some (w.heap.size,0,none)) (Lib.splitB c 0 (Lib.countB s c) s).length (Lib.splitB c 0 (Lib.countB s c) s).length fun i _=>.str ((Lib.splitB c 0 (Lib.countB s c) s).getD i ByteArray.empty),?_,?_,?_,?_⟩
    ·rw [he,hlen]; rfl
    ·rw [E8]
     unfold ux
     congr 1
     have : Lib.split s.data.toList c.data.toList = (Lib.splitB c 0 (Lib.countB s c) s).map (·.data.toList):=xq.symm
     rw [this,List.map_map]
     refine List.map_congr_left fun x _=>?_
     simp
    ·exact (Below.refl _ _).alloc (Nat.le_refl _) _
    ·refine BQ (Nat.le_refl _) (t:=t9) ?_ fun x hx=>?_
     ·show (w.heap.push _)[w.heap.size]? = _
      simp
     ·have h1 : x.data.toList∈Lib.splitK c.data.toList 0 (Lib.countB s c) s.data.toList:=by rw [← xq]; exact List.mem_map_of_mem hx
      have h2 : ∀ (k : Nat) (l : List UInt8),∀ y∈Lib.splitK c.data.toList 0 k l,y.length≤l.length:=by
       intro k
       induction k with
       | zero=>intro l y hy; simp [Lib.splitK] at hy; rw [hy]; exact Nat.le_refl _
       | succ k ih =>
        intro l y hy
        unfold Lib.splitK at hy
        split at hy
        ·rw [List.mem_singleton.1 hy]; exact Nat.le_refl _
        ·rcases List.mem_cons.1 hy with rfl | hy
         ·simp
          omega
         ·have:=ih _ _ hy; simp at this; omega
      have h3:=h2 _ _ _ h1
      have h4:=hh.1
      have e1 : s.size = s.data.toList.length:=Lib.size_eq _
      have e2 : x.size = x.data.toList.length:=Lib.size_eq _
      omega
   ·cases hg
  ·cases hg
theorem AY (s c : aj) : (Lib.cut s c).1.length≤s.length∧(Lib.cut s c).2.1.length≤s.length:=by
 unfold Lib.cut
 split
 ·simp; omega
 ·simp
theorem AX [B : Bs] {P : Program} {f0 : FuncId} {g1 : Nat} (hm : ∃ m,B.W0.cell? ⟨g1,0,none⟩ = some (.int .i64 m)) (hc : ∀ (s sep : ByteArray) (m : Int) (w : World),s.size < 4294967281→w.cell? ⟨g1,0,none⟩ = some (.int .i64 m) →
  Calls P f0 #[.string s,.string sep] w fun e w'=>e = .returned (.tuple #[.string ⟨(Lib.cut s.data.toList sep.data.toList).1.toArray⟩,.string ⟨(Lib.cut s.data.toList sep.data.toList).2.1.toArray⟩,.bool (Lib.cut s.data.toList sep.data.toList).2.2])∧∃ n,w' = w.drewN n) : (fB f0 pJ).Sound P :=
 uc fun xs r hg w zl zb cs hx hA hs=>by
  unfold pJ at hg
  split at hg
  ·rename_i s c
   split at hg
   ·rename_i hh
    cases hg
    obtain rfl:=zF hx
    obtain ⟨m,hm⟩:=hm
    have hl:=AY s.data.toList c.data.toList
    refine (hc s c m w hh (hs.cell hm)).mono fun e w' ⟨he,n,hw⟩=>?_
    subst hw
    refine ⟨oP [.str ⟨(Lib.cut s.data.toList c.data.toList).1.toArray⟩,.str ⟨(Lib.cut s.data.toList c.data.toList).2.1.toArray⟩,.bool (Lib.cut s.data.toList c.data.toList).2.2],?_,?_,Au _ n,wP fun x hx=>?_⟩
    ·rw [he,zE]; rfl
    ·rw [zC]; rfl
    ·have hz : s.data.toList.length≤4294967281:=by
      have e1 : s.size = s.data.toList.length:=Lib.size_eq _
      omega
     simp only [List.mem_cons,List.not_mem_nil,or_false] at hx
     rcases hx with rfl | rfl | rfl
     ·exact ⟨wO (by simp only [ByteArray.size,List.size_toArray]; omega),trivial,fun _ _ h=>h⟩
     ·exact ⟨wO (by simp only [ByteArray.size,List.size_toArray]; omega),trivial,fun _ _ h=>h⟩
     ·exact ⟨wN,trivial,fun _ _ h=>h⟩
   ·cases hg
  ·cases hg
theorem DM [B : Bs] {P : Program} {f0 : FuncId} (hc : ∀ (s : ByteArray) (w : World),fY w→s.size≤9223372036854775807 →
  Calls P f0 #[.string s] w fun e w'=>e = .returned (.tuple #[.int .i64 (((bH s.data.toList).getD 0 : Nat) : Int),.bool (bH s.data.toList).isSome])∧Below w.heap.size w w') : (fB f0 qK).Sound P :=
 uc fun xs r hg w zl zb cs hx hA hs=>by
  unfold qK at hg
  split at hg
  ·rename_i s
   split at hg
   ·rename_i hh
    cases hg
    obtain rfl:=DZ hx
    refine (hc s w hs hh).mono fun e w' ⟨he,hw⟩=>?_
    refine ⟨oP [.int .i64 (((bH s.data.toList).getD 0 : Nat) : Int),.bool (bH s.data.toList).isSome],?_,?_,hw,wP fun x hx=>?_⟩
    ·rw [he,zE]; rfl
    ·rw [zC]; cases bH s.data.toList <;> rfl
    ·simp only [List.mem_cons,List.not_mem_nil,or_false] at hx
     rcases hx with rfl | rfl
     ·exact ⟨BP,trivial,fun _ _ h=>h⟩
     ·exact ⟨wN,trivial,fun _ _ h=>h⟩
   ·cases hg
  ·cases hg
theorem C8 [B : Bs] {P : Program} {f0 : FuncId} (htab : Lib.TabIs P B.W0 "internal/strconv.uint64pow10" .u64 Lib.pow10Tab) (hc : ∀ (n : Int),-9223372036854775808≤n→n≤9223372036854775807→∀ w,Lib.TabIs P w "internal/strconv.uint64pow10" .u64 Lib.pow10Tab →
  Calls P f0 #[.int .i64 n] w fun e w'=>e = .returned (.string ⟨(Lib.itoa n).toArray⟩)∧∃ k os,w' = Sort.grow (w.drewN k) os) : (gX f0 nE).Sound P :=
 BV fun xs r h w hw=>by
  unfold nE at h
  split at h
  ·rename_i n
   split at h
   ·rename_i xo
    cases h
    exact hc n xo.1 xo.2 w (TabIs.same htab hw)
   ·cases h
  ·cases h
end M
namespace Go.Proofs
open Go.RowKit
theorem Fy {P : Program} {w w' : World} {n : String} {k : IntKind} {zs : List Int} (h : Lib.TabIs P w n k zs) (hw : Below w.heap.size w w') : Lib.TabIs P w' n k zs:=by
 unfold Lib.TabIs World.var? at h ⊢
 cases hg : P.globalNamed n with
 | none=>rw [hg] at h; cases h
 | some g =>
  rw [hg] at h
  simp only [Option.bind_some] at h ⊢
  have hlt : g < w.heap.size:=by
   rcases Nat.lt_or_ge g w.heap.size with h' | h'
   ·exact h'
   ·rw [Array.getElem?_eq_none h'] at h; cases h
  rw [hw.block g hlt]
  exact h
theorem zK [B : M.Bs] {P : Program} {w : World} {n : String} {cs : Array Value} (h : B.W0.var? P n = some cs) (hw : M.fY w) : w.var? P n = some cs:=by
 unfold World.var? at h ⊢
 cases hg : P.globalNamed n with
 | none=>rw [hg] at h; cases h
 | some g =>
  rw [hg] at h
  simp only [Option.bind_some] at h ⊢
  have hlt : g < B.W0.heap.size:=by
   rcases Nat.lt_or_ge g B.W0.heap.size with h' | h'
   ·exact h'
   ·rw [Array.getElem?_eq_none h'] at h; cases h
  rw [hw g hlt]
  exact h
theorem BW (w : World) (k : Nat) (os : Array Obj) : Below w.heap.size w (Sort.grow (w.drewN k) os) :=
 ⟨rfl,rfl,rfl,by simp [Sort.grow,World.drewN],fun b hb=>by show (w.heap ++ os)[b]? = w.heap[b]?; exact Array.getElem?_append_left hb⟩
def gw (v : Int) (l : List UInt8) : Bool:=decide (0≤v∧v≤1000000∧Lib.itoa v = l)
def ld (v : Int) (l : List UInt8) : Int:=if gw v l = true then v else 0
theorem DK {P : Program} {f a : FuncId} {s : ByteArray} {w : World} (hmax : s.size≤9223372036854775807)
  (CB : 7 < s.size→Calls P f #[.string s] w fun e w'=>e = .returned (.tuple #[.int .i64 0,.bool false])∧w' = w)
  (hok : ¬ 7 < s.size→∀ v,Lib.atoiAll s.data.toList = .ok v→Calls P f #[.string s] w fun e w'=>e = .returned (.tuple #[.int .i64 (ld v s.data.toList),.bool (gw v s.data.toList)])∧Below w.heap.size w w')
  (Ce : ¬ 7 < s.size→(∀ v,Lib.atoiAll s.data.toList≠.ok v)→Calls P f #[.string s] w fun e w'=>e = .returned (.tuple #[.int .i64 0,.bool false])∧Below w.heap.size w w') :
  Calls P f #[.string s] w fun e w'=>e = .returned (.tuple #[.int .i64 (((M.bH s.data.toList).getD 0 : Nat) : Int),.bool (M.bH s.data.toList).isSome])∧Below w.heap.size w w':=by
 have hl : s.size = s.data.toList.length:=Lib.size_eq _
 by_cases h : 7 < s.size
 ·rw [M.ym _ (by omega)]
  exact (CB h).mono fun e w' ⟨he,hw⟩=>⟨he,hw ▸ Below.refl _ _⟩
 by_cases hv : ∃ v,Lib.atoiAll s.data.toList = .ok v
 ·obtain ⟨v,hv⟩:=hv
  rw [← M.DN _ _ hv]
  refine (hok h v hv).mono fun e w' ⟨he,hw⟩=>⟨?_,hw⟩
  rw [he]
  by_cases hb : gw v s.data.toList = true
  ·have hb':=hb
   unfold gw at hb'
   rw [decide_eq_true_eq] at hb'
   rw [ld,if_pos hb,hb,if_pos hb']
   simp; omega
  ·have hb':=hb
   unfold gw at hb'
   rw [decide_eq_true_eq] at hb'
   rw [ld,if_neg hb,if_neg hb']
   simp [hb]
 ·have b9 : ∀ v,Lib.atoiAll s.data.toList≠.ok v:=fun v e=>hv ⟨v,e⟩
  rw [M.DP _ b9]
  exact Ce h b9
theorem E4 {H : Type} {enc : TypeId×Value→H} {a : Assume} {C : Checked} {os : Os} {f : FuncId} {fn : Func} {s : ChangeSpec} {conds : List PathCond} {apart fresh handsOn again : Bool} {X : World→Array Value→Prop}
  (hX : ∀ (w w' : World) (args : Array Value),w.heap = w'.heap→X w args→X w' args)
  (own : ownKnob C.prog.godebug = none) (started : os.Started) (noInit : C.prog.inits.idxOf? f = none) (hfn : C.prog.funcs[f]? = some fn)
  (witness : ∃ (w : World) (tape : Tape) (i : Input),w.os = os∧(w.forCall tape i).Shaped C.prog∧i.vars = []∧Input.okWide C.prog (w.forCall tape i) .any w.heap.size f i ∧
   ((s.pre enc C.prog fn conds apart (w.forCall tape i).memory i.args∧X (w.forCall tape i).memory i.args)∧sizedMet enc C.prog fn (OpenSpec.ofChange s) apart (w.forCall tape i).memory i.args)∧a.holds C.prog (lone (Frame.enter C.prog f i.args .normal) [] (w.forCall tape i)))
  (contract : ∀ (W : World) (base : Nat) (args : Array Value) (ds gs : List (DataW H)) (before : List MemPlace),
   (∀ (j : Nat) t v,fn.params[j]? = some t→args[j]? = some v→Value.okWide C.prog W .any base t v) →
   DataW.Whole enc C.prog fn.params.toList s.vars apart W args.toList ds gs before →
   conds.all (PathCond.test C.prog ⟨fn.params.toList,ds,s.plain.varTypes C.prog,gs⟩) = true →
   (DataW.weightsEach C.prog (fn.params.toList ++ s.plain.varTypes C.prog) (ds ++ gs)).all (·≤reachBytes) = true→X W args →
   W.ShapedOpen C.prog →
   a.holds C.prog (lone (Frame.enter C.prog f args .normal) [] W) →
   Calls C.prog f args W fun e W'=>∃ v,e = .returned v∧s.post enc C.prog fn apart fresh handsOn again W args v W') :
  ReturnsInHanded a C os f .any (fun w args=>(s.pre enc C.prog fn conds apart w args∧X w args)∧sizedMet enc C.prog fn (OpenSpec.ofChange s) apart w args) (s.post enc C.prog fn apart fresh handsOn again):=by
 refine returnsInHanded_of_calls own started noInit witness ?_
 intro w tape i _ hsh _ hok hpre hholds
 obtain ⟨_,_,_,fn',Cq,_,_,_,_,hval⟩:=hok
 have e : fn' = fn:=Option.some.inj (Cq.symm.trans hfn)
 subst e
 obtain ⟨⟨⟨ds,gs,before,hw,hc⟩,hx⟩,hz⟩:=hpre
 have hw':=DataW.Whole.of_heap (w':=w.forCall tape i) (by rfl) hw
 refine (contract (w.forCall tape i) w.heap.size i.args ds gs before hval hw' hc (hz.weights hw) (hX _ _ _ (by rfl) hx) hsh hholds).mono fun e W' ⟨v,he,hp⟩=>?_
 subst he
 exact ChangeSpec.post_blind hp
end Go.Proofs
namespace M
open Go Go.RowKit
end M
namespace M
open Go Go.RowKit
end M
