/- A machine of values for loaded Go functions, sound for the calculus of calls; part 3; no conditions. -/
import Derived.Test.YtkpkgfollnfhcaaGreatDoorMb
import Derived.Sort.Grow
import Derived.Deep.Draws
import Derived.Lib.LaidTab
import Derived.MakeChecks
import Derived.Laws.BitsLemmas
import Derived.ChangeArms
import Derived.ChangeReads
import Derived.ChangeOld
import Derived.ChangeShapes
import Derived.SizedLaws
import Derived.RowKit
import Derived.Below
import Derived.Lib.ItoaNum
import Derived.Lib.TrimByte
import Derived.Lib.AtoiAllCases
import Derived.Lib.SplitLaws
import Derived.Lib.Join
import Derived.Lib.IndexMore
import Derived.HandedShaped
import Derived.Lib.Strings
import Derived.Lib.Slices
import Derived.Lib.Walk
import Derived.Stop.LaidErr
set_option linter.unusedSectionVars false
set_option linter.unusedVariables false
set_option linter.unusedSimpArgs false
namespace M
open Go
section
variable {C C' : bE} {ok : FuncId→Bool}
theorem XH {C : bE} {d : Option Nat} {s s' : ah} {f : FuncId} {xs : List X} (h : mS d s (C f xs) = some s') : ∃ o,C f xs = some o∧∀ C' : bE,C' f xs = some o→mS d s (C' f xs) = some s':=by
 cases ho : C f xs with
 | none=>rw [ho] at h; cases h
 | some o=>rw [ho] at h; exact ⟨o,rfl,fun C' h'=>by rw [h']; exact h⟩
theorem XG {C : bE} {d : Option Nat} {as : List (AV×PM)} {back : tD} {s' : ah} {f : FuncId} {xs : List X} (h : qq d as back (C f xs) = some s') : ∃ o,C f xs = some o∧∀ C' : bE,C' f xs = some o→qq d as back (C' f xs) = some s':=by
 cases ho : C f xs with
 | none=>rw [ho] at h; cases h
 | some o=>rw [ho] at h; exact ⟨o,rfl,fun C' h'=>by rw [h']; exact h⟩
theorem HE {f : FuncId} {d : Option Nat} {as : List (AV×PM)} {fv : Option AV} {s s' : ah} (h : nE C f d as fv s = some s') :
  ∃ xs o,C f xs = some o∧∀ C' : bE,C' f xs = some o→nE C' f d as fv s = some s':=by
 unfold nE at h ⊢
 by_cases hb : X.bare.gD (bp as s).1 = true
 ·simp only [if_pos hb] at h ⊢
  cases hm : cO as with
  | none =>
   simp only [hm] at h ⊢
   by_cases hc : ri (bp as s).2 fv f = true
   ·simp only [if_pos hc] at h ⊢
    obtain ⟨o,h1,h2⟩:=XH h
    exact ⟨_,o,h1,h2⟩
   ·simp only [if_neg hc] at h; cases h
  | some xn =>
   obtain ⟨x,n⟩:=xn
   simp only [hm] at h ⊢
   unfold q9 at h ⊢
   split at h
   ·split at h
    ·rename_i y back h1 h2
     simp only [h1,if_pos h2]
     obtain ⟨o,h1,h2⟩:=XG h
     exact ⟨_,o,h1,h2⟩
    ·cases h
   ·cases h
 ·simp only [if_neg hb] at h; cases h
theorem Im {o : bA} {s s' : ah} (h : bQ C ok o s = some s') : (∀ C' : bE,bQ C' ok o s = some s')∨∃ f xs r,C f xs = some r∧∀ C' : bE,C' f xs = some r→bQ C' ok o s = some s':=by
 cases o with
 | call d f as =>
  obtain ⟨xs,o,h1,h2⟩:=HE (C:=C) h
  exact .inr ⟨f,xs,o,h1,h2⟩
 | iG d x as =>
  simp only [bQ] at h ⊢
  split at h
  ·rename_i f caps hf
   split at h
   ·rename_i hok
    obtain ⟨xs,o,h1,h2⟩:=HE (C:=C) h
    refine .inr ⟨f,xs,o,h1,fun C' h'=>?_⟩
    simp only [if_pos hok]
    exact h2 C' h'
   ·cases h
  ·cases h
 | kr d f x as =>
  simp only [bQ] at h ⊢
  split at h
  ·rename_i cs h1
   split at h
   ·rename_i h2
    simp only [if_pos h2]
    refine .inr ?_
    cases ho : C f (.agg (bq cs s).1 :: ez (bq cs s).2 .dead as (as.map fun _=>.dead)) with
    | none=>rw [ho] at h; cases h
    | some r=>rw [ho] at h; exact ⟨f,_,r,ho,fun C' h'=>by rw [h']; exact h⟩
   ·cases h
  ·cases h
 | _=>exact .inl fun _=>h
theorem Ii {g : G} {s s' : ah} (h : eG C ok g s = some s') : (∀ C' : bE,eG C' ok g s = some s')∨∃ f xs r,C f xs = some r∧∀ C' : bE,C' f xs = some r→eG C' ok g s = some s':=by
 obtain ⟨gg,o⟩:=g
 cases gg with
 | none=>exact Im h
 | some tb =>
  obtain ⟨t,b⟩:=tb
  simp only [eG] at h ⊢
  split at h
  ·rename_i v hv
   split at h
   ·rename_i h1
    simp only [hv,if_pos h1]
    exact Im h
   ·rename_i h1
    simp only [hv,if_neg h1]
    exact .inl fun _=>h
  ·exact .inl fun _=>h
  ·cases h
def bE.le (C C' : bE) : Prop:=∀ f xs o,C f xs = some o→C' f xs = some o
theorem Ik (hl : C.le C') {g : G} {s s' : ah} (h : eG C ok g s = some s') : eG C' ok g s = some s':=by
 rcases Ii h with h | ⟨f,xs,r,h1,h2⟩
 ·exact h _
 ·exact h2 _ (hl _ _ _ h1)
theorem C4 (hl : C.le C') : ∀ {l : List G} {s s' : ah},hO C ok l s = some s'→hO C' ok l s = some s'
 | [],_,_,h=>h
 | g :: l,s,s',h=>by
  simp only [hO] at h ⊢
  cases h1 : eG C ok g s with
  | none=>rw [h1] at h; cases h
  | some s1=>rw [h1] at h; rw [Ik hl h1]; exact C4 hl h
theorem ry (hl : C.le C') : ∀ {t : DT} {s s' : ah},eD C ok t s = some s'→eD C' ok t s = some s'
 | .nil _,_,_,h=>h
 | .step _ g l,s,s',h=>by
  simp only [eD] at h ⊢
  cases h1 : eG C ok g s with
  | none=>rw [h1] at h; cases h
  | some s1=>rw [h1] at h; rw [Ik hl h1]; exact ry hl h
 | .alt a b,s,s',h=>by
  simp only [eD] at h ⊢
  unfold same at h
  split at h
  ·rename_i x y hx hy
   rw [ry hl hx,ry hl hy]
   exact h
  ·cases h
 | .kp _ t,s,s',h=>ry (t:=t) hl h
theorem B0 {k k' : ah→bG} {r r' : bG} {o : Ex×ah} (h : dG k r = some o) (hr : ∀ x,r = some x→r' = some x) (hk : ∀ s,k s = some o→k' s = some o) : dG k' r' = some o:=by
 unfold dG at h
 split at h
 ·rw [hr _ rfl]; exact hk _ h
 ·rw [hr _ rfl]; exact h
 ·rw [hr _ rfl]; exact h
 ·cases h
theorem rY {f f' : ah→bG} (hf : ∀ s o,f s = some o→f' s = some o) : ∀ {n m : Nat} {s : ah} {o : Ex×ah},n≤m→iter f n s = some o→iter f' m s = some o
 | 0,_,_,_,_,h=>by cases h
 | n + 1,0,_,_,hn,_=>by omega
 | n + 1,m + 1,s,o,hn,h=>B0 h (hf s) fun s' h'=>rY hf (by omega) h'
end
noncomputable def aD (f : ah→bG) (s : ah) : bG:=by
 classical exact if h : ∃ o : Ex×ah,∃ n,iter f n s = some o then some (Classical.choose h) else none
theorem wk {f : ah→bG} {s : ah} {o : Ex×ah} {n : Nat} (h : iter f n s = some o) : aD f s = some o:=by
 have hh : ∃ o : Ex×ah,∃ n,iter f n s = some o:=⟨o,n,h⟩
 unfold aD
 rw [dif_pos hh]
 obtain ⟨m,hm⟩:=Classical.choose_spec hh
 have h1:=rY (fun _ _ h=>h) (Nat.le_max_left m n) hm
 have h2:=rY (fun _ _ h=>h) (Nat.le_max_right m n) h
 rw [h1] at h2
 exact h2
theorem EP {f : ah→bG} {s : ah} {o : Ex×ah} (h : aD f s = some o) : ∃ n,iter f n s = some o:=by
 unfold aD at h
 split at h
 ·rename_i hh
  cases h
  exact Classical.choose_spec hh
 ·cases h
theorem E5 {α : Type} {a b : Option α} (h1 : ∀ x,a = some x→b = some x) (h2 : ∀ x,b = some x→a = some x) : a = b:=by
 cases a with
 | none=>cases b with
  | none=>rfl
  | some y=>exact h2 y rfl
 | some x=>exact (h1 x rfl).symm
theorem cM (f : ah→bG) (s : ah) : aD f s = dG (aD f) (f s):=by
 refine E5 (fun o h=>?_) fun o h=>?_
 ·obtain ⟨n,hn⟩:=EP h
  cases n with
  | zero=>cases hn
  | succ n=>exact B0 hn (fun _ h=>h) fun s' h'=>wk h'
 ·unfold dG at h
  split at h
  ·rename_i s' hs
   obtain ⟨n,hn⟩:=EP h
   refine wk (n:=n + 1) ?_
   simp only [iter,hs,dG]; exact hn
  ·rename_i hs; refine wk (n:=1) ?_; simp only [iter,hs,dG]; exact h
  ·rename_i hs; refine wk (n:=1) ?_; simp only [iter,hs,dG]; exact h
  ·cases h
noncomputable def ai (C : bE) (ok : FuncId→Bool) : A→ah→bG
 | .skip,s=>some (.normal,s)
 | .ret,s=>some (.ret,s)
 | .exit id,s=>some (.exit id,s)
 | .ops l,s=>fP (hO C ok l s)
 | .draw t,s=>fP (eD C ok t s)
 | .seq a b,s=>dG (ai C ok b) (ai C ok a s)
 | .cond c a b,s=>match aq s c with
  | .bool t=>if t = true then ai C ok a s else ai C ok b s
  | _=>none
 | .block id b,s=>jc id (ai C ok b s)
 | .loop b,s=>aD (ai C ok b) s
 | .pk ks b,s=>jz ks (ai C ok b s)
theorem AZ {a b : Option ah} (h : ∀ s,a = some s→b = some s) {o : Ex×ah} (ho : fP a = some o) : fP b = some o:=by
 unfold fP at ho
 split at ho
 ·rw [h _ rfl]; exact ho
 ·cases ho
theorem G0 {id : Nat} {a b : bG} (h : ∀ s,a = some s→b = some s) {o : Ex×ah} (ho : jc id a = some o) : jc id b = some o:=by
 cases a with
 | none=>cases ho
 | some x=>rw [h _ rfl]; exact ho
theorem K5 {ks : List Nat} {a b : bG} (h : ∀ s,a = some s→b = some s) {o : Ex×ah} (ho : jz ks a = some o) : jz ks b = some o:=by
 cases a with
 | none=>cases ho
 | some x=>rw [h _ rfl]; exact ho
theorem Ra {C C' : bE} {ok : FuncId→Bool} (hl : C.le C') {N : Nat} : ∀ {t : A} {s : ah} {o : Ex×ah},eA C ok N t s = some o→ai C' ok t s = some o:=by
 intro t
 induction t with
 | skip=>intro s o h; exact h
 | ret=>intro s o h; exact h
 | exit id=>intro s o h; exact h
 | ops l=>intro s o h; exact AZ (fun s' h'=>C4 hl h') h
 | draw l=>intro s o h; exact AZ (fun s' h'=>ry hl h') h
 | seq a b fO ig=>intro s o h; exact B0 h (fun x hx=>fO hx) fun s' h'=>ig h'
 | cond c a b fO ig =>
  intro s o h
  simp only [eA] at h
  simp only [ai]
  split at h
  ·rename_i t ht
   try rw [ht]
   cases t with
   | true=>exact fO h
   | false=>exact ig h
  ·cases h
 | block id b ih=>intro s o h; exact G0 (fun x hx=>ih hx) h
 | loop b ih=>intro s o h; exact wk (rY (fun s o h=>ih h) (Nat.le_refl _) h)
 | pk ks b ih=>intro s o h; exact K5 (fun x hx=>ih hx) h
theorem Rb {C C' : bE} {ok : FuncId→Bool} (hl : C.le C') {N N' : Nat} (hN : N≤N') : ∀ {t : A} {s : ah} {o : Ex×ah},eA C ok N t s = some o→eA C' ok N' t s = some o:=by
 intro t
 induction t with
 | skip=>intro s o h; exact h
 | ret=>intro s o h; exact h
 | exit id=>intro s o h; exact h
 | ops l=>intro s o h; exact AZ (fun s' h'=>C4 hl h') h
 | draw l=>intro s o h; exact AZ (fun s' h'=>ry hl h') h
 | seq a b fO ig=>intro s o h; exact B0 h (fun x hx=>fO hx) fun s' h'=>ig h'
 | cond c a b fO ig =>
  intro s o h
  simp only [eA] at h ⊢
  split at h
  ·rename_i t ht
   cases t with
   | true=>exact fO h
   | false=>exact ig h
  ·cases h
 | block id b ih=>intro s o h; exact G0 (fun x hx=>ih hx) h
 | loop b ih=>intro s o h; exact rY (fun s o h=>ih h) hN h
 | pk ks b ih=>intro s o h; exact K5 (fun x hx=>ih hx) h
theorem yL {L : bE} {T : gB} : ∀ {n m : Nat},n≤m→(exec L T n).le (exec L T m)
 | 0,_,_,_,_,_,h=>by cases h
 | n + 1,0,hn,_,_,_,_=>by omega
 | n + 1,m + 1,hn,f,xs,o,h=>by
  have hnm : n≤m:=by omega
  simp only [exec] at h ⊢
  split at h
  ·rename_i F hF
   unfold eF at h ⊢
   split at h
   ·rename_i hl
    rw [if_pos hl]
    cases hr : eA (exec L T n) (aj T) n F.body (kq xs) with
    | none=>rw [hr] at h; cases h
    | some r=>rw [hr] at h; rw [Rb (yL hnm) hnm hr]; exact h
   ·cases h
  ·exact h
noncomputable def ev (L : bE) (T : gB) : bE:=fun f xs=>by
 classical exact if h : ∃ o : Out,∃ n,exec L T n f xs = some o then some (Classical.choose h) else none
theorem C6 {L : bE} {T : gB} {f : FuncId} {xs : List X} {o : Out} {n : Nat} (h : exec L T n f xs = some o) : ev L T f xs = some o:=by
 have hh : ∃ o : Out,∃ n,exec L T n f xs = some o:=⟨o,n,h⟩
 unfold ev
 rw [dif_pos hh]
 obtain ⟨m,hm⟩:=Classical.choose_spec hh
 have h1:=yL (Nat.le_max_left m n) f xs _ hm
 have h2:=yL (Nat.le_max_right m n) f xs _ h
 rw [h1] at h2
 exact h2
theorem yJ {L : bE} {T : gB} {f : FuncId} {xs : List X} {o : Out} (h : ev L T f xs = some o) : ∃ n,exec L T n f xs = some o:=by
 unfold ev at h
 split at h
 ·rename_i hh
  cases h
  exact Classical.choose_spec hh
 ·cases h
theorem Ri (L : bE) (T : gB) (n : Nat) : (exec L T n).le (ev L T):=fun _ _ _ h=>C6 h
theorem adu [Bs] {P : Program} {L : bE} {T : gB} (hL : L.Sound P) (hT : T.Ok P) : (ev L T).Sound P:=fun f xs o h=>by
 obtain ⟨n,hn⟩:=yJ h
 exact Iy hL hT n f xs o hn
section
variable {L : bE} {T : gB}
theorem Ij {g : G} {s s' : ah} (h : eG (ev L T) (aj T) g s = some s') : ∃ n,∀ m,n≤m→eG (exec L T m) (aj T) g s = some s':=by
 rcases Ii h with h | ⟨f,xs,r,h1,h2⟩
 ·exact ⟨0,fun m _=>h _⟩
 ·obtain ⟨n,hn⟩:=yJ h1
  exact ⟨n,fun m hm=>h2 _ (yL hm f xs r hn)⟩
theorem Ip : ∀ {l : List G} {s s' : ah},hO (ev L T) (aj T) l s = some s'→∃ n,∀ m,n≤m→hO (exec L T m) (aj T) l s = some s'
 | [],s,s',h=>⟨0,fun m _=>h⟩
 | g :: l,s,s',h=>by
  simp only [hO] at h ⊢
  cases h1 : eG (ev L T) (aj T) g s with
  | none=>rw [h1] at h; cases h
  | some s1 =>
   rw [h1] at h
   obtain ⟨n1,gj⟩:=Ij h1
   obtain ⟨n2,hn2⟩:=Ip (l:=l) h
   exact ⟨max n1 n2,fun m hm=>by rw [gj m (by omega)]; exact hn2 m (by omega)⟩
theorem tZ : ∀ {l : DT} {s s' : ah},eD (ev L T) (aj T) l s = some s'→∃ n,∀ m,n≤m→eD (exec L T m) (aj T) l s = some s'
 | .nil _,s,s',h=>⟨0,fun m _=>h⟩
 | .step _ g l,s,s',h=>by
  simp only [eD] at h ⊢
  cases h1 : eG (ev L T) (aj T) g s with
  | none=>rw [h1] at h; cases h
  | some s1 =>
   rw [h1] at h
   obtain ⟨n1,gj⟩:=Ij h1
   obtain ⟨n2,hn2⟩:=tZ (l:=l) h
   exact ⟨max n1 n2,fun m hm=>by rw [gj m (by omega)]; exact hn2 m (by omega)⟩
 | .alt a b,s,s',h=>by
  simp only [eD] at h ⊢
  unfold same at h
  split at h
  ·rename_i x y hx hy
   obtain ⟨n1,gj⟩:=tZ hx
   obtain ⟨n2,hn2⟩:=tZ hy
   exact ⟨max n1 n2,fun m hm=>by rw [gj m (by omega),hn2 m (by omega)]; exact h⟩
  ·cases h
 | .kp _ t,s,s',h=>tZ (l:=t) h
theorem KD {a : Option ah} {b : Nat→Option ah} (h : ∀ s,a = some s→∃ n,∀ m,n≤m→b m = some s) {o : Ex×ah} (ho : fP a = some o) : ∃ n,∀ m,n≤m→fP (b m) = some o:=by
 cases a with
 | none=>cases ho
 | some s =>
  obtain ⟨n,hn⟩:=h s rfl
  exact ⟨n,fun m hm=>by rw [hn m hm]; exact ho⟩
theorem Rg : ∀ {t : A} {s : ah} {o : Ex×ah},ai (ev L T) (aj T) t s = some o→∃ n,∀ m,n≤m→eA (exec L T m) (aj T) m t s = some o:=by
 intro t
 induction t with
 | skip=>intro s o h; exact ⟨0,fun m _=>h⟩
 | ret=>intro s o h; exact ⟨0,fun m _=>h⟩
 | exit id=>intro s o h; exact ⟨0,fun m _=>h⟩
 | ops l=>intro s o h; exact KD (fun s h=>Ip h) h
 | draw l=>intro s o h; exact KD (fun s h=>tZ h) h
 | seq a b fO ig =>
  intro s o h
  simp only [ai] at h
  simp only [eA]
  cases hr : ai (ev L T) (aj T) a s with
  | none=>rw [hr] at h; cases h
  | some r =>
   rw [hr] at h
   obtain ⟨n1,gj⟩:=fO hr
   obtain ⟨e,s1⟩:=r
   cases e with
   | normal =>
    obtain ⟨n2,hn2⟩:=ig (s:=s1) h
    exact ⟨max n1 n2,fun m hm=>by rw [gj m (by omega)]; exact hn2 m (by omega)⟩
   | exit i=>exact ⟨n1,fun m hm=>by rw [gj m hm]; exact h⟩
   | ret=>exact ⟨n1,fun m hm=>by rw [gj m hm]; exact h⟩
 | cond c a b fO ig =>
  intro s o h
  simp only [ai] at h
  simp only [eA]
  split at h
  ·rename_i t ht
   try rw [ht]
   cases t with
   | true=>exact fO h
   | false=>exact ig h
  ·cases h
 | block id b ih =>
  intro s o h
  simp only [ai] at h
  simp only [eA]
  cases hr : ai (ev L T) (aj T) b s with
  | none=>rw [hr] at h; cases h
  | some r =>
   rw [hr] at h
   obtain ⟨n1,gj⟩:=ih hr
   exact ⟨n1,fun m hm=>by rw [gj m hm]; exact h⟩
 | pk ks b ih =>
  intro s o h
  simp only [ai] at h
  simp only [eA]
  cases hr : ai (ev L T) (aj T) b s with
  | none=>rw [hr] at h; cases h
  | some r =>
   rw [hr] at h
   obtain ⟨n1,gj⟩:=ih hr
   exact ⟨n1,fun m hm=>by rw [gj m hm]; exact h⟩
 | loop b ih =>
  intro s o h
  simp only [ai] at h
  obtain ⟨n,hn⟩:=EP h
  have go : ∀ (n : Nat) (s : ah),iter (ai (ev L T) (aj T) b) n s = some o→∃ k,∀ m,k≤m→iter (eA (exec L T m) (aj T) m b) n s = some o:=by
   intro n
   induction n with
   | zero=>intro s h; cases h
   | succ n ihn =>
    intro s h
    simp only [iter] at h ⊢
    cases hr : ai (ev L T) (aj T) b s with
    | none=>rw [hr] at h; cases h
    | some r =>
     rw [hr] at h
     obtain ⟨n1,gj⟩:=ih hr
     obtain ⟨e,s1⟩:=r
     cases e with
     | normal =>
      obtain ⟨n2,hn2⟩:=ihn s1 h
      exact ⟨max n1 n2,fun m hm=>by rw [gj m (by omega)]; exact hn2 m (by omega)⟩
     | exit i=>exact ⟨n1,fun m hm=>by rw [gj m hm]; exact h⟩
     | ret=>exact ⟨n1,fun m hm=>by rw [gj m hm]; exact h⟩
  obtain ⟨k,hk⟩:=go n s hn
  refine ⟨max k n,fun m hm=>?_⟩
  simp only [eA]
  exact rY (fun _ _ h=>h) (by omega) (hk m (by omega))
noncomputable def yI (L : bE) (T : gB) (F : Fn) (xs : List X) : Option Out :=
 if xs.length = F.n then fin F (ai (ev L T) (aj T) F.body (kq xs)) else none
theorem Rh {f : FuncId} {F : Fn} (hF : T f = some F) (xs : List X) : ev L T f xs = yI L T F xs:=by
 refine E5 (fun o h=>?_) fun o h=>?_
 ·obtain ⟨n,hn⟩:=yJ h
  cases n with
  | zero=>cases hn
  | succ n =>
   simp only [exec,hF] at hn
   unfold eF at hn
   unfold yI
   split at hn
   ·rename_i hl
    rw [if_pos hl]
    cases hr : eA (exec L T n) (aj T) n F.body (kq xs) with
    | none=>rw [hr] at hn; cases hn
    | some r=>rw [hr] at hn; rw [Ra (Ri L T n) hr]; exact hn
   ·cases hn
 ·unfold yI at h
  split at h
  ·rename_i hl
   cases hr : ai (ev L T) (aj T) F.body (kq xs) with
   | none=>rw [hr] at h; cases h
   | some r =>
    rw [hr] at h
    obtain ⟨n,hn⟩:=Rg hr
    refine C6 (n:=n + 1) ?_
    simp only [exec,hF,eF,if_pos hl,hn n (Nat.le_refl n)]
    exact h
  ·cases h
theorem lq {f : FuncId} (hF : T f = none) (xs : List X) : ev L T f xs = L f xs:=by
 refine E5 (fun o h=>?_) fun o h=>?_
 ·obtain ⟨n,hn⟩:=yJ h
  cases n with
  | zero=>cases hn
  | succ n=>simpa only [exec,hF] using hn
 ·refine C6 (n:=1) ?_
  simpa only [exec,hF] using h
end
end M
namespace M
open Go
section
variable {C : bE} {ok : FuncId→Bool} {T : gB}
@[simp] theorem adt (s : ah) : ai C ok .skip s = some (.normal,s):=rfl
@[simp] theorem adq (s : ah) : ai C ok .ret s = some (.ret,s):=rfl
@[simp] theorem adl (i : Nat) (s : ah) : ai C ok (.exit i) s = some (.exit i,s):=rfl
@[simp] theorem ado (l : List G) (s : ah) : ai C ok (.ops l) s = fP (hO C ok l s):=rfl
@[simp] theorem adk (t : DT) (s : ah) : ai C ok (.draw t) s = fP (eD C ok t s):=rfl
@[simp] theorem ads (a b : A) (s : ah) : ai C ok (.seq a b) s = dG (ai C ok b) (ai C ok a s):=rfl
@[simp] theorem adi (i : Nat) (b : A) (s : ah) : ai C ok (.block i b) s = jc i (ai C ok b s):=rfl
@[simp] theorem adn (b : A) (s : ah) : ai C ok (.loop b) s = aD (ai C ok b) s:=rfl
@[simp] theorem adp (ks : List Nat) (b : A) (s : ah) : ai C ok (.pk ks b) s = jz ks (ai C ok b s):=rfl
noncomputable def HY (C : bE) (ok : FuncId→Bool) (a b : A) (s : ah) : X→bG
 | .bool t=>if t = true then ai C ok a s else ai C ok b s
 | _=>none
@[simp] theorem adj (c : AV) (a b : A) (s : ah) : ai C ok (.cond c a b) s = HY C ok a b s (aq s c):=by
 simp only [ai]; cases aq s c <;> rfl
@[simp] theorem acL (a b : A) (s : ah) (t : Bool) : HY C ok a b s (.bool t) = if t = true then ai C ok a s else ai C ok b s:=rfl
@[simp] theorem adg (s : ah) : hO C ok [] s = some s:=rfl
@[simp] theorem adf (g : G) (l : List G) (s : ah) : hO C ok (g :: l) s = (eG C ok g s).bind (hO C ok l):=rfl
@[simp] theorem ac9 (ks : List Nat) (s : ah) : eD C ok (.nil ks) s = some (keep ks s):=rfl
@[simp] theorem ada (i : Nat) (g : G) (t : DT) (s : ah) : eD C ok (.step i g t) s = (eG C ok g s).bind (eD C ok t):=rfl
@[simp] theorem ac7 (a b : DT) (s : ah) : eD C ok (.alt a b) s = same (eD C ok a s) (eD C ok b s):=rfl
@[simp] theorem ac8 (ks : List Nat) (t : DT) (s : ah) : eD C ok (.kp ks t) s = eD C ok t (keep ks s):=rfl
@[simp] theorem aeT (s : ah) : same (some s) (some s) = some s:=by
 have : nO s s = true:=by
  induction s with
  | nil=>rfl
  | cons a l ih=>obtain ⟨k,x⟩:=a; simp [nO,X.Iw,ih]
 simp [same,this]
@[simp] theorem abV (c : Prop) [Decidable c] (a b : Option ah) (f : ah→Option ah) : (if c then a else b).bind f = if c then a.bind f else b.bind f:=by split <;> rfl
def yZ (C : bE) (ok : FuncId→Bool) (o : bA) (t : Nat) (b : Bool) (s : ah) : X→Option ah
 | .bool v=>if v = b then bQ C ok o ((t,.bool b) :: s) else some (dR o.dst (.ak []) ((t,.bool (!b)) :: s))
 | .ak []=>some (dR o.dst (.ak []) s)
 | _=>none
@[simp] theorem adb (o : bA) (s : ah) : eG C ok ⟨none,o⟩ s = bQ C ok o s:=rfl
@[simp] theorem ade (t : Nat) (b : Bool) (o : bA) (s : ah) : eG C ok ⟨some (t,b),o⟩ s = yZ C ok o t b s (get s t):=by
 simp only [eG]
 split <;> simp_all [yZ]
@[simp] theorem adH (o : bA) (t : Nat) (b v : Bool) (s : ah) : yZ C ok o t b s (.bool v) = if v = b then bQ C ok o ((t,.bool b) :: s) else some (dR o.dst (.ak []) ((t,.bool (!b)) :: s)):=rfl
@[simp] theorem adI (o : bA) (t : Nat) (b : Bool) (s : ah) : yZ C ok o t b s (.ak []) = some (dR o.dst (.ak []) s):=rfl
@[simp] theorem aeE (s : ah) : fP (some s) = some (.normal,s):=rfl
@[simp] theorem aeD : fP none = none:=rfl
@[simp] theorem aeC (c : Prop) [Decidable c] (a b : Option ah) : fP (if c then a else b) = if c then fP a else fP b:=by split <;> rfl
@[simp] theorem YB (k : ah→bG) (s : ah) : dG k (some (.normal,s)) = k s:=rfl
@[simp] theorem aeV (k : ah→bG) (i : Nat) (s : ah) : dG k (some (.exit i,s)) = some (.exit i,s):=rfl
@[simp] theorem aeY (k : ah→bG) (s : ah) : dG k (some (.ret,s)) = some (.ret,s):=rfl
@[simp] theorem aeX (k : ah→bG) : dG k none = none:=rfl
@[simp] theorem aeW (k : ah→bG) (c : Prop) [Decidable c] (a b : bG) : dG k (if c then a else b) = if c then dG k a else dG k b:=by split <;> rfl
@[simp] theorem abZ (i : Nat) (s : ah) : jc i (some (.normal,s)) = some (.normal,s):=rfl
@[simp] theorem abW (i j : Nat) (s : ah) : jc i (some (.exit j,s)) = if j = i then some (.normal,s) else some (.exit j,s):=rfl
@[simp] theorem ab0 (i : Nat) (s : ah) : jc i (some (.ret,s)) = some (.ret,s):=rfl
@[simp] theorem abY (i : Nat) : jc i none = none:=rfl
@[simp] theorem abX (i : Nat) (c : Prop) [Decidable c] (a b : bG) : jc i (if c then a else b) = if c then jc i a else jc i b:=by split <;> rfl
@[simp] theorem aeN (ks : List Nat) (s : ah) : jz ks (some (.normal,s)) = some (.normal,keep ks s):=rfl
@[simp] theorem aeK (ks : List Nat) (i : Nat) (s : ah) : jz ks (some (.exit i,s)) = some (.exit i,s):=rfl
@[simp] theorem aeO (ks : List Nat) (s : ah) : jz ks (some (.ret,s)) = some (.ret,s):=rfl
@[simp] theorem aeM (ks : List Nat) : jz ks none = none:=rfl
@[simp] theorem aeL (ks : List Nat) (c : Prop) [Decidable c] (a b : bG) : jz ks (if c then a else b) = if c then jz ks a else jz ks b:=by split <;> rfl
def pN (rs : List RV) (n : Nat) : bG→Option Out
 | some (.exit _,_)=>none
 | some (_,s)=>if X.clean.bJ (cP rs s).1 = true∧(cP rs s).1.any X.jX = false then some (qt (cP rs s).1,mR 0 n (cP rs s).2) else none
 | none=>none
def Da (rs : List RV) (n : Nat) (s : ah) : Option Out:=if X.clean.bJ (cP rs s).1 = true∧(cP rs s).1.any X.jX = false then some (qt (cP rs s).1,mR 0 n (cP rs s).2) else none
theorem ay {L : bE} {T : gB} {f : FuncId} {b : A} {rs : List RV} {n : Nat} (h : T f = some ⟨b,rs,n⟩) {xs : List X} (hl : xs.length = n) : ev L T f xs = pN rs n (ai (ev L T) (aj T) b (kq xs)):=by
 rw [Rh h]
 unfold yI
 rw [if_pos hl]
 rfl
@[simp] theorem adG (rs : List RV) (n : Nat) (s : ah) : pN rs n (some (.ret,s)) = Da rs n s:=rfl
@[simp] theorem adF (rs : List RV) (n : Nat) (s : ah) : pN rs n (some (.normal,s)) = Da rs n s:=rfl
@[simp] theorem adE (rs : List RV) (n : Nat) : pN rs n none = none:=rfl
@[simp] theorem adD (rs : List RV) (n : Nat) (c : Prop) [Decidable c] (a b : bG) : pN rs n (if c then a else b) = if c then pN rs n a else pN rs n b:=by split <;> rfl
@[simp] theorem aeR (d : Option Nat) (s : ah) (r : X) (ps : List X) : mS d s (some (r,ps)) = some (dR d r s):=rfl
@[simp] theorem aeQ (d : Option Nat) (s : ah) : mS d s none = none:=rfl
@[simp] theorem aeP (d : Option Nat) (s : ah) (c : Prop) [Decidable c] (a b : Option Out) : mS d s (if c then a else b) = if c then mS d s a else mS d s b:=by split <;> rfl
end
attribute [simp] Da bQ kq xH xI cP mR post qt X.jX X.clean X.clean.bJ X.clean.aU keep B6 yj nE ri
end M
namespace M
open Go
def tU (z bytes : Nat) : A:=(.seq (.pk [0] (.ops [⟨none,.aJ 2 .aI (.k (.row .own z []))⟩])) (.seq (.seq (.pk [0,4] (.ops [⟨none,.mv 3 (.t 0)⟩,⟨none,.oE 4 false (.t 3)⟩])) (.pk [0] (.cond (.t 4) (.seq (.pk [2,7] (.ops [⟨none,.aJ 2 .aI (.k (.row .own z []))⟩])) .ret) .skip))) (.seq (.pk [2,7] (.ops [⟨none,.lit 5 .mv z []⟩,⟨none,.mv 6 (.t 0)⟩,⟨none,.app 7 .al z bytes (.t 5) (.t 6)⟩,⟨none,.aJ 2 .aI (.t 7)⟩])) .ret)))
theorem HQ : ∀ {rows : List (List X)},fR rows = true→X.clean.aU rows = true
 | [],_=>rfl
 | e :: l,h=>by
  simp only [fR,Bool.and_eq_true,List.all_eq_true] at h
  have h1 : X.clean.bJ e = true:=by
   have h2:=h.1
   clear h
   induction e with
   | nil=>rfl
   | cons x e ih =>
    have hx:=h2 x (List.mem_cons_self ..)
    have he:=ih fun y hy=>h2 y (List.mem_cons_of_mem _ hy)
    cases x <;> simp_all [scalar,X.clean.bJ,X.clean]
  simp only [X.clean.aU,h1,HQ h.2,Bool.and_self]
theorem QL [Bs] {P : Program} {f : FuncId} {z bytes : Nat} (hT : Told P f (tU z bytes) [.t 2] 1) {rows : List (List X)} (h1 : rows.length * bytes≤140737488355328) (h2 : fR rows = true) (h4 : j9 rows = true∨rows = []) :
  AC P f [.row .af z rows] fun r ps=>r = .row .own z rows∧ps = [.dead]:=by
 refine hT.ac rfl ?_
 have h3:=FU h2
 have h5:=HQ h2
 simp [tU,dc,iD,l6,aG,base,Ends,h1,h3,h5]
 intro h6
 rcases h4 with h4 | h4
 ·rw [h4] at h6; cases h6
 ·subst h4; simp
def iH (f0 z bytes : Nat) : bE:=fun f xs=>if f = f0 then (match xs with
 | [.row .af z' rows]=>if z' = z∧rows.length * bytes≤140737488355328∧fR rows = true∧(j9 rows = true∨rows = []) then some (.row .own z rows,[.dead]) else none
 | _=>none) else none
theorem HR [Bs] {P : Program} {f0 z bytes : Nat} (hT : Told P f0 (tU z bytes) [.t 2] 1) : (iH f0 z bytes).Sound P:=fun f xs o h=>by
 unfold iH at h
 split at h
 ·rename_i hf
  subst hf
  split at h
  ·split at h
   ·rename_i hc
    obtain ⟨rfl,c1,c2,c3⟩:=hc
    cases h
    exact QL hT c1 c2 c3
   ·cases h
  ·cases h
 ·cases h
def fq (L L' : bE) : bE:=fun f xs=>match L f xs with
 | some o=>some o
 | none=>L' f xs
theorem oH [Bs] {P : Program} {L L' : bE} (h : L.Sound P) (h' : L'.Sound P) : (fq L L').Sound P:=fun f xs o e=>by
 unfold fq at e
 split at e
 ·rename_i o' e'
  cases e
  exact h f xs _ e'
 ·exact h' f xs _ e
end M
namespace M
open Go
def sv : X→Value
 | .int k n=>.int k n
 | .bool b=>.bool b
 | .str s=>.string s
 | _=>undef
theorem Ys {c : C} (h : scalar c.er = true) : c.val = sv c.er:=by
 cases c <;> first | rfl | (simp [C.er,scalar] at h)
def xK : X→Bool
 | .str s=>decide (s.size≤9223372036854775807)
 | x=>scalar x
def iw (f0 : FuncId) (g : List X→Option X) : bE:=fun f xs=>if f = f0 then (match g xs with
 | some r=>if xs.all scalar = true∧xK r = true then some (r,xs.map fun _=>.dead) else none
 | none=>none) else none
end M
namespace M
open Go Go.Sort
def lg [B : Bs] (w : World) : Prop:=∀ b,b < B.W0.heap.size→w.heap[b]? = B.W0.heap[b]?
theorem Oo [Bs] {P : Program} {f : FuncId} {xs : List X} {r : X} (hx : ∀ x∈xs,scalar x = true) (hr : xK r = true)
  (h : ∀ w,lg w→Calls P f (xs.map sv).toArray w fun e w'=>e = .returned (sv r)∧∃ k os,w' = grow (w.drewN k) os) : AC P f xs fun r' ps=>r' = r∧ps = xs.map fun _=>.dead:=by
 intro w zl zb cs e hA jS
 have hv : cs.map C.val = xs.map sv:=by
  rw [← e,List.map_map]
  exact List.map_congr_left fun c hc=>Ys (hx _ (e ▸ List.mem_map_of_mem hc))
 rw [hv]
 refine (h w fun b hb=>(jS b hb).1).mono fun e' w' ⟨he,k,os,hw⟩=>?_
 subst hw
 have hsz : w.heap.size≤(grow (w.drewN k) os).heap.size:=by simp [grow,World.drewN]
 have hs : ∃ c : C,c.er = r∧c.val = sv r∧c.ok (grow (w.drewN k) os) (Zf zl fun _ _=>False)∧c.bare∧∀ b k,¬ c.fp b k:=by
  cases r with
  | int k n=>exact ⟨.int k n,rfl,rfl,trivial,trivial,fun _ _ h=>h⟩
  | bool b=>exact ⟨.bool b,rfl,rfl,trivial,trivial,fun _ _ h=>h⟩
  | str s=>exact ⟨.str s,rfl,rfl,by simp [xK] at hr; exact hr,trivial,fun _ _ h=>h⟩
  | _=>simp [xK,scalar] at hr
 obtain ⟨c,c1,c2,c3,c4,c5⟩:=hs
 have Dz : Ext (fun b k=>∃ x∈cs,x.fp b k) w (grow (w.drewN k) os):=⟨rfl,rfl,rfl,hsz,fun b hb=>.inl (by
  show (w.heap ++ os)[b]? = w.heap[b]?
  exact Array.getElem?_append_left hb)⟩
 refine ⟨c,cs.map fun x=>.dead x.val,zl,⟨by rw [he,c2],by rw [List.map_map]; rfl,Dz,⟨fun x hx'=>?_,fun x hx'=>?_,fun x hx' b k hf=>?_,fun b k hz=>Nat.lt_of_lt_of_le (hA.bN b k (hz.imp id fun h=>h.elim)) hsz,?_⟩,fun x hx' b k hf=>?_,fun _ _ h=>h,fun _ _ h=>.inl h⟩,c1,?_⟩
 ·rcases List.mem_cons.1 hx' with rfl | hx'
  ·exact c3
  ·obtain ⟨y,_,rfl⟩:=List.mem_map.1 hx'; trivial
 ·rcases List.mem_cons.1 hx' with rfl | hx'
  ·exact c4
  ·obtain ⟨y,_,rfl⟩:=List.mem_map.1 hx'; trivial
 ·rcases List.mem_cons.1 hx' with rfl | hx'
  ·exact (c5 b k hf).elim
  ·obtain ⟨y,_,rfl⟩:=List.mem_map.1 hx'; exact hf.elim
 ·refine List.pairwise_cons.2 ⟨fun x _ b k hf=>(c5 b k hf).elim,?_⟩
  refine List.pairwise_iff_getElem.2 fun i j hi hj _ b k hf=>?_
  obtain ⟨y,_,hy⟩:=List.mem_map.1 (List.getElem_mem hi)
  rw [← hy] at hf
  exact hf.elim
 ·rcases List.mem_cons.1 hx' with rfl | hx'
  ·exact (c5 b k hf).elim
  ·obtain ⟨y,_,rfl⟩:=List.mem_map.1 hx'; exact hf.elim
 ·rw [← e]
  simp [List.map_map,Function.comp_def,C.er]
theorem Ub [Bs] {P : Program} {f0 : FuncId} {g : List X→Option X} (h : ∀ xs r,g xs = some r→∀ w,lg w→Calls P f0 (xs.map sv).toArray w fun e w'=>e = .returned (sv r)∧∃ k os,w' = grow (w.drewN k) os) : (iw f0 g).Sound P:=fun f xs o e=>by
 unfold iw at e
 split at e
 ·rename_i hf
  subst hf
  split at e
  ·rename_i r hr
   split at e
   ·rename_i hc
    cases e
    exact Oo (List.all_eq_true.1 hc.1) hc.2 (h xs r hr)
   ·cases e
  ·cases e
 ·cases e
theorem TabIs.same [B : Bs] {P : Program} {w : World} {n : String} {k : IntKind} {zs : List Int} (h : Lib.TabIs P B.W0 n k zs) (hw : lg w) : Lib.TabIs P w n k zs:=by
 unfold Lib.TabIs World.var? at h ⊢
 cases hg : P.globalNamed n with
 | none=>rw [hg] at h; cases h
 | some g =>
  rw [hg] at h
  simp only [Option.bind_some] at h ⊢
  have hlt : g < B.W0.heap.size:=by
   rcases Nat.lt_or_ge g B.W0.heap.size with h' | h'
   ·exact h'
   ·rw [Array.getElem?_eq_none h'] at h; cases h
  rw [hw g hlt]
  exact h
theorem Yw {P : Program} {W : World} {name : String} {k : IntKind} {zs : List Int} {g : Nat} {t e : TypeId} {n : Nat}
  (hg : P.globalNamed name = some g) (hty : (P.globals[g]?).map (·.type) = some t) (ht : P.underlying t = some (.array n e)) (he : P.underlying e = some (.int k)) (hce : P.cellsOf e = 1) (hct : P.cellsOf t = n) :
  ∀ {l : List (String×DataW Unit)} {ps : List MemPlace},DataW.LaidVars P W l ps→(name,Lib.tabData k zs)∈l→Lib.TabIs P W name k zs
 | [],_,_,h=>by cases h
 | (nm,d) :: l,ps,h,hm=>by
  obtain ⟨g',t',cs,fuel,p,q,hg',ht',hvar,hd,hr,_⟩:=h
  rcases List.mem_cons.1 hm with hm | hm
  ·obtain ⟨rfl,rfl⟩:=Prod.mk.inj hm
   obtain rfl:=Option.some.inj (hg.symm.trans hg')
   obtain rfl:=Option.some.inj (hty.symm.trans ht')
   unfold Lib.TabIs
   rw [hvar,← Lib.cells_of_tab ht he hce hct hd]
  ·exact Yw hg hty ht he hce hct hr hm
end M
namespace M
open Go
def lv : Ex×ah→bG
 | (.normal,_)=>none
 | (.ret,s)=>some (.ret,s)
 | (.exit i,s)=>some (.exit i,s)
def ke {β γ : Type} (go : β→γ→γ ⊕ (Ex×ah)) : List β→γ→γ ⊕ (Ex×ah)
 | [],g=>.inl g
 | b :: l,g=>match go b g with
  | .inl g'=>ke go l g'
  | .inr o=>.inr o
theorem AN {xt : Nat} {β γ : Type} {f : ah→bG} (l : List β) (st : Nat→γ→ah) (go : β→γ→γ ⊕ (Ex×ah)) (E : γ→ah) (Inv : Nat→γ→Prop) (g : γ) (h0 : Inv 0 g)
  (h : ∀ i b g,l[i]? = some b→i < l.length→Inv i g→f (st i g) = (match go b g with | .inl g'=>some (.normal,st (i + 1) g') | .inr o=>lv o))
  (hI : ∀ i b g g',l[i]? = some b→Inv i g→go b g = .inl g'→Inv (i + 1) g')
  (hend : ∀ g,Inv l.length g→f (st l.length g) = some (.exit xt,E g)) :
  aD f (st 0 g) = match ke go l g with | .inl g'=>some (.exit xt,E g') | .inr o=>lv o:=by
 suffices H : ∀ (r : List β) (i : Nat) (g : γ),Inv i g→l.drop i = r→i≤l.length→aD f (st i g) = match ke go r g with | .inl g'=>some (.exit xt,E g') | .inr o=>lv o from H l 0 g h0 rfl (Nat.zero_le _)
 intro r
 induction r with
 | nil =>
  intro i g hi hr hl
  have : i = l.length:=by
   have:=congrArg List.length hr
   simp at this
   omega
  subst this
  rw [cM,hend g hi]
  rfl
 | cons b r ih =>
  intro i g hi hr hl
  have hlt : i < l.length:=by
   rcases Nat.lt_or_ge i l.length with h | h
   ·exact h
   ·rw [List.drop_eq_nil_of_le h] at hr; cases hr
  have hb : l[i]? = some b:=by
   have:=List.drop_eq_getElem_cons hlt
   rw [hr] at this
   rw [List.getElem?_eq_getElem hlt]
   cases this; rfl
  have hr' : l.drop (i + 1) = r:=by
   have:=List.drop_eq_getElem_cons hlt
   rw [hr] at this
   cases this; rfl
  rw [cM,h i b g hb hlt hi]
  unfold ke
  cases hg : go b g with
  | inl g'=>exact ih (i + 1) g' (hI i b g g' hb hi hg) hr' hlt
  | inr o =>
   obtain ⟨e,s⟩:=o
   cases e <;> simp [dG,lv]
def aR {α : Type} (p : α→Bool) (l : List α) : Bool:=l.all p
theorem iB {α : Type} {p : α→Bool} {l : List α} : aR p l = true↔∀ x∈l,p x = true:=List.all_eq_true
theorem eK {xt : Nat} {β : Type} {f : ah→bG} (l : List β) (st : Nat→ah) (p : β→Bool) (R E : ah)
  (h : ∀ i b,l[i]? = some b→i < l.length→f (st i) = if p b = true then some (.normal,st (i + 1)) else some (.ret,R))
  (hend : f (st l.length) = some (.exit xt,E)) :
  aD f (st 0) = if aR p l = true then some (.exit xt,E) else some (.ret,R):=by
 show _ = if l.all p = true then _ else _
 have H:=AN (f:=f) l (fun i (_ : Unit)=>st i) (fun b _=>if p b = true then .inl () else .inr (.ret,R)) (fun _=>E) (fun _ _=>True) () trivial
  (fun i b g hb hl _=>by rw [h i b hb hl]; by_cases hp : p b = true <;> simp [hp,lv]) (fun _ _ _ _ _ _ _=>trivial) fun _ _=>hend
 refine H.trans ?_
 have : ∀ r : List β,ke (fun b (_ : Unit)=>if p b = true then .inl () else .inr (Ex.ret,R)) r () = if r.all p = true then .inl () else .inr (.ret,R):=by
  intro r
  induction r with
  | nil=>rfl
  | cons b r ih =>
   simp only [ke]
   by_cases hp : p b = true
   ·simp [hp,ih]
   ·simp [hp]
 rw [this]
 by_cases hp : l.all p = true <;> simp [hp,lv]
theorem Kq {xt : Nat} {β γ : Type} {f : ah→bG} (l : List β) (st : Nat→γ→ah) (go : γ→β→γ) (E : γ→ah) (Inv : Nat→γ→Prop) (g : γ) (h0 : Inv 0 g)
  (h : ∀ i b g,l[i]? = some b→i < l.length→Inv i g→f (st i g) = some (.normal,st (i + 1) (go g b)))
  (hI : ∀ i b g,l[i]? = some b→Inv i g→Inv (i + 1) (go g b))
  (hend : ∀ g,Inv l.length g→f (st l.length g) = some (.exit xt,E g)) :
  aD f (st 0 g) = some (.exit xt,E (l.foldl go g)):=by
 refine (AN (f:=f) l st (fun b g=>.inl (go g b)) E Inv g h0 h (fun i b g g' hb hi e=>by cases e; exact hI i b g hb hi) hend).trans ?_
 have : ∀ (r : List β) (g : γ),ke (fun b g=>.inl (go g b)) r g = (.inl (r.foldl go g) : γ ⊕ (Ex×ah)):=by
  intro r
  induction r with
  | nil=>intro g; rfl
  | cons b r ih=>intro g; simp only [ke,List.foldl_cons]; exact ih _
 rw [this]
theorem iW {xt : Nat} {β : Type} {f : ah→bG} (l : List β) (st : Nat→ah) (E : ah)
  (h : ∀ i b,l[i]? = some b→i < l.length→f (st i) = some (.normal,st (i + 1)))
  (hend : f (st l.length) = some (.exit xt,E)) : aD f (st 0) = some (.exit xt,E) :=
 Kq l (fun i (_ : Unit)=>st i) (fun _ _=>()) (fun _=>E) (fun _ _=>True) () trivial (fun i b _ hb hl _=>h i b hb hl) (fun _ _ _ _ _=>trivial) fun _ _=>hend
theorem aH {n : Int} (h1 : -9223372036854775808≤n) (h2 : n≤9223372036854775807) : IntKind.i64.wrap n = n:=by
 simp only [IntKind.wrap,IntKind.signed,IntKind.bits,Bool.true_and,decide_eq_true_eq]
 split <;> rename_i h <;> simp at h <;> omega
theorem aO (n : Nat) (h : n < 9223372036854775807) : IntKind.i64.wrap (↑n + 1) = ↑n + 1:=aH (by omega) (by omega)
attribute [simp] base BR fu look xD qJ qk q9 sC qq gR eN
abbrev ag:=List UInt8
@[simp] theorem aeU (s : ag) : ByteArray.size ⟨s.toArray⟩ = s.length:=by simp [ByteArray.size]
@[simp] theorem str_inj (s t : ag) : ((⟨s.toArray⟩ : ByteArray) = ⟨t.toArray⟩)↔s = t:=by
 constructor
 ·intro h
  injection h with h
  simpa using congrArg Array.toList h
 ·rintro rfl; rfl
theorem fB (s t : ag) : (⟨s.toArray⟩ : ByteArray) ++ ⟨t.toArray⟩ = ⟨(s ++ t).toArray⟩:=by
 apply ByteArray.ext
 rw [ByteArray.data_append]
 simp
@[simp] def eS (s : ag) : List X:=[.str ⟨s.toArray⟩]
structure Wr where
 at_ : Int
 text : ag
 deriving DecidableEq
structure aV where
 cells : List ag
 pending : List Wr
 deriving DecidableEq
@[simp] def eW (w : Wr) : List X:=[.int .i64 w.at_,.str ⟨w.text.toArray⟩]
@[simp] def bO (m : Md) (d : aV) : List X:=[.row m 1 (d.cells.map eS),.row m 2 (d.pending.map eW)]
@[simp] theorem aew (m : Md) (l : List ag) : X.bx m (l.map eS) = l.map eS:=by induction l <;> simp_all [X.bx,X.cR,X.md]
@[simp] theorem aeA (m : Md) (l : List Wr) : X.bx m (l.map eW) = l.map eW:=by induction l <;> simp_all [X.bx,X.cR,X.md]
@[simp] theorem acv (l : List ag) : X.clean.aU (l.map eS) = true:=by induction l <;> simp_all [X.clean.aU,X.clean.bJ,X.clean]
@[simp] theorem acA (l : List Wr) : X.clean.aU (l.map eW) = true:=by induction l <;> simp_all [X.clean.aU,X.clean.bJ,X.clean]
def iz {α : Type} (f : α→Int→Int) : List α→Int→Int
 | [],n=>n
 | a :: l,n=>if f a n < 0 then -1 else iz f l (f a n)
theorem Kr {xt : Nat} {β : Type} {f : ah→bG} (l : List β) (st : Nat→Int→ah) (z : β→Int→Int) (R : ah) (E : Int→ah) (n : Int) (hn : 0≤n) (hm : n≤9223372036854775807)
  (hz : ∀ a n,z a n≤n∨z a n < 0)
  (h : ∀ i b n,l[i]? = some b→i < l.length→0≤n→n≤9223372036854775807→f (st i n) = if z b n < 0 then some (.ret,R) else some (.normal,st (i + 1) (z b n)))
  (hend : ∀ n,f (st l.length n) = some (.exit xt,E n)) :
  aD f (st 0 n) = if iz z l n < 0 then some (.ret,R) else some (.exit xt,E (iz z l n)):=by
 have H:=AN (f:=f) l st (fun b n=>if z b n < 0 then .inr (.ret,R) else .inl (z b n)) E (fun _ n=>0≤n∧n≤9223372036854775807) n ⟨hn,hm⟩
  (fun i b n hb hl hi=>by rw [h i b n hb hl hi.1 hi.2]; by_cases hp : z b n < 0 <;> simp [hp,lv]) (fun i b g g' hb hi hg=>by
   by_cases hp : z b g < 0
   ·simp [hp] at hg
   ·simp [hp] at hg
    have:=hz b g
    omega) fun g _=>hend g
 refine H.trans ?_
 have : ∀ (r : List β) (n : Int),0≤n→ke (fun b n=>if z b n < 0 then .inr (Ex.ret,R) else .inl (z b n)) r n = if iz z r n < 0 then .inr (.ret,R) else .inl (iz z r n):=by
  intro r
  induction r with
  | nil=>intro n hn; rw [if_neg (by simp [iz]; omega)]; rfl
  | cons b r ih =>
   intro n hn
   simp only [ke,iz]
   by_cases hp : z b n < 0
   ·simp [hp]
   ·simp only [hp,if_false]
    exact ih _ (by omega)
 rw [this l n hn]
 by_cases hp : iz z l n < 0 <;> simp [hp,lv]
theorem Wc {α β : Type} (l : List α) (e : α→β) (z : β) (g : β→β) {i : Nat} (hi : i < l.length) (hg : g z = e l[i]) :
  ((l.take i).map e ++ List.replicate (l.length - i) z).modify i g = (l.take (i + 1)).map e ++ List.replicate (l.length - (i + 1)) z:=by
 apply List.ext_getElem?
 intro j
 rw [List.getElem?_modify]
 rcases Nat.lt_trichotomy j i with h | h | h
 ·rw [List.getElem?_append_left (by simp; omega),List.getElem?_append_left (by simp; omega)]
  simp only [List.getElem?_map,List.getElem?_take,if_pos h,if_pos (Nat.lt_succ_of_lt h),if_neg (Nat.ne_of_gt h)]
  cases l[j]? <;> rfl
 ·subst h
  rw [List.getElem?_append_right (by simp; omega),List.getElem?_append_left (by simp; omega)]
  have : j - ((l.take j).map e).length = 0:=by simp; omega
  rw [this,List.getElem?_replicate_of_lt (by omega)]
  simp only [List.getElem?_map,List.getElem?_take,if_pos (Nat.lt_succ_self j),List.getElem?_eq_getElem hi,if_true,Option.map_some,← hg]
  rfl
 ·rw [List.getElem?_append_right (by simp; omega),List.getElem?_append_right (by simp; omega)]
  have h1 : j - ((l.take i).map e).length = j - i:=by simp; omega
  have h2 : j - ((l.take (i + 1)).map e).length = j - (i + 1):=by simp; omega
  rw [h1,h2,List.getElem?_replicate,List.getElem?_replicate]
  by_cases h3 : j < l.length
  ·rw [if_pos (by omega),if_pos (by omega)]
   simp only [Nat.ne_of_lt h,if_false]
   rfl
  ·rw [if_neg (by omega),if_neg (by omega)]
   rfl
def gd (rows : List (List X)) (i : Nat) (z : List X) : List (List X):=rows.take i ++ List.replicate (rows.length - i) z
@[simp] theorem adB (rows : List (List X)) (i : Nat) (z : List X) : (gd rows i z).length = rows.length:=by simp [gd]; omega
@[simp] theorem Rn (rows : List (List X)) (i : Nat) (z : List X) (h : i < rows.length) : (gd rows i z)[i]? = some z:=by
 unfold gd
 rw [List.getElem?_append_right (by simp; omega),List.getElem?_replicate_of_lt (by simp; omega)]
@[simp] theorem adA (rows : List (List X)) (i : Nat) (z : List X) (h : i < (gd rows i z).length) : (gd rows i z)[i] = z:=by
 have h' : i < rows.length:=by simpa using h
 have:=Rn rows i z h'
 rw [List.getElem?_eq_getElem h] at this
 exact Option.some.inj this
@[simp] theorem adC (rows : List (List X)) (z : List X) : gd rows 0 z = List.replicate rows.length z:=by simp [gd]
@[simp] theorem adz (rows : List (List X)) (i : Nat) (z : List X) (h : i = rows.length) : gd rows i z = rows:=by subst h; simp [gd]
@[simp] theorem yP (rows : List (List X)) (i : Nat) (z : List X) (g : List X→List X) (h : i < rows.length) (hg : g z = rows[i]) : (gd rows i z).modify i g = gd rows (i + 1) z:=by
 have:=Wc rows id z g h (by simpa using hg)
 simpa [gd] using this
theorem qn {α : Type} (l : List α) (i : Nat) (f g : α→α) : (l.modify i f).modify i g = l.modify i fun x=>g (f x):=by
 apply List.ext_getElem?
 intro j
 simp only [List.getElem?_modify]
 by_cases h : i = j
 ·simp only [h,if_true]; cases l[j]? <;> rfl
 ·simp only [h,if_false]; cases l[j]? <;> rfl
theorem qS {α β : Type} : ∀ {a : List α} {b : List β},a.length = b.length→∃ ps : List (α×β),a = ps.map Prod.fst∧b = ps.map Prod.snd
 | [],[],_=>⟨[],rfl,rfl⟩
 | x :: a,y :: b,h=>by
  obtain ⟨ps,h1,h2⟩:=qS (a:=a) (b:=b) (by simpa using h)
  exact ⟨(x,y) :: ps,by simp [← h1],by simp [← h2]⟩
 | [],_ :: _,h=>by cases h
 | _ :: _,[],h=>by cases h
def dn {α : Type} [DecidableEq α] (x : α×α) : Bool:=decide (x.1 = x.2)
theorem o9 {α : Type} [DecidableEq α] : ∀ ps : List (α×α),aR dn ps = decide (ps.map Prod.fst = ps.map Prod.snd)
 | []=>rfl
 | x :: ps=>by
  have:=o9 ps
  unfold aR at this ⊢
  simp only [List.all_cons,this,dn,List.map_cons,List.cons.injEq]
  exact (Bool.decide_and ..).symm
theorem VU {xt : Nat} {β : Type} {f : ah→bG} (l : List β) (st : Int→ah) (p : β→Bool) (R : β→ah) (E : ah)
  (h : ∀ (i : Nat) b,l[i]? = some b→i < l.length→f (st i) = if p b = true then some (.ret,R b) else some (.normal,st (i - 1)))
  (hend : f (st (-1)) = some (.exit xt,E)) :
  aD f (st (l.length - 1)) = (l.reverse.find? p).elim (some (.exit xt,E)) (fun b=>some (.ret,R b)):=by
 suffices H : ∀ k,k≤l.length→aD f (st ((k : Int) - 1)) = ((l.take k).reverse.find? p).elim (some (.exit xt,E)) (fun b=>some (.ret,R b)) by
  have:=H l.length (Nat.le_refl _)
  rwa [List.take_length] at this
 intro k
 induction k with
 | zero=>intro _; rw [cM]; simp [hend]
 | succ k ih =>
  intro hk
  have hb : l[k]? = some l[k]:=List.getElem?_eq_getElem hk
  have e : ((k + 1 : Nat) : Int) - 1 = (k : Int):=by omega
  rw [e,cM,h k _ hb hk,List.take_add_one,hb]
  simp only [Option.toList_some,List.reverse_append,List.reverse_cons,List.reverse_nil,List.nil_append,List.singleton_append,List.find?_cons]
  by_cases hp : p l[k] = true
  ·simp [hp]
  ·simp only [hp,Bool.false_eq_true,if_false,YB]
   exact ih (by omega)
def bV (d : aV) (a : Int) : ag:=d.pending.foldl (fun out w=>if w.at_ = a then w.text else out) (d.cells.getD a.toNat [])
theorem Dh (a : Int) : ∀ (l : List Wr) (x : ag),l.foldl (fun out w=>if w.at_ = a then w.text else out) x = (l.reverse.find? (fun w=>decide (w.at_ = a))).elim x Wr.text
 | [],x=>rfl
 | w :: l,x=>by
  rw [List.foldl_cons,Dh a l,List.reverse_cons,List.find?_append]
  cases l.reverse.find? (fun w=>decide (w.at_ = a)) with
  | some v=>rfl
  | none=>by_cases h : w.at_ = a <;> simp [h]
def dN (new old : List (List X)) (i : Nat) : List (List X):=new.take i ++ old.drop i
@[simp] theorem IA (new old : List (List X)) (i : Nat) (h : new.length = old.length) : (dN new old i).length = old.length:=by simp [dN]; omega
@[simp] theorem Rm (new old : List (List X)) (i : Nat) (h : new.length = old.length) (hi : i < old.length) : (dN new old i)[i]? = old[i]?:=by
 unfold dN
 rw [List.getElem?_append_right (by simp; omega),List.getElem?_drop]
 congr 1
 simp; omega
@[simp] theorem adx (new old : List (List X)) (i : Nat) (hl : i < (dN new old i).length) (h : new.length = old.length) : (dN new old i)[i] = old[i]'(by rw [IA _ _ _ h] at hl; exact hl):=by
 have hi : i < old.length:=by rw [IA _ _ _ h] at hl; exact hl
 have:=Rm new old i h hi
 rw [List.getElem?_eq_getElem hl,List.getElem?_eq_getElem hi] at this
 exact Option.some.inj this
@[simp] theorem ady (new old : List (List X)) : dN new old 0 = old:=by simp [dN]
@[simp] theorem adw (new old : List (List X)) (i : Nat) (h : new.length = old.length) (hi : i = old.length) : dN new old i = new:=by subst hi; rw [← h]; simp [dN]; omega
theorem uh (new old : List (List X)) (i : Nat) (g : List X→List X) (h : new.length = old.length) (hi : i < old.length) (hg : g (old[i]) = new[i]) : (dN new old i).modify i g = dN new old (i + 1):=by
 apply List.ext_getElem?
 intro j
 unfold dN
 rw [List.getElem?_modify]
 rcases Nat.lt_trichotomy j i with hj | hj | hj
 ·rw [List.getElem?_append_left (by simp; omega),List.getElem?_append_left (by simp; omega)]
  simp only [List.getElem?_take,if_pos hj,if_pos (Nat.lt_succ_of_lt hj),if_neg (Nat.ne_of_gt hj)]
  cases new[j]? <;> rfl
 ·subst hj
  rw [List.getElem?_append_right (by simp; omega),List.getElem?_append_left (by simp; omega)]
  have : j - (new.take j).length = 0:=by simp; omega
  rw [this,List.getElem?_drop,Nat.add_zero,List.getElem?_take,if_pos (Nat.lt_succ_self j),List.getElem?_eq_getElem hi,List.getElem?_eq_getElem (by omega)]
  simp only [if_true,← hg]
  rfl
 ·rw [List.getElem?_append_right (by simp; omega),List.getElem?_append_right (by simp; omega),List.getElem?_drop,List.getElem?_drop]
  have h1 : i + (j - (new.take i).length) = j:=by simp; omega
  have h2 : i + 1 + (j - (new.take (i + 1)).length) = j:=by simp; omega
  rw [h1,h2]
  simp only [Nat.ne_of_lt hj,if_false]
  cases old[j]? <;> rfl
def iX (n : Nat) (out : ag) : ag:=if h : n = 0 then out else iX (n / 10) (UInt8.ofNat (48 + n % 10) :: out)
termination_by n
decreasing_by omega
def ql (k : Int) : ag:=if k≤0 then [109,48] else 109 :: iX k.toNat []
def wv (n : Nat) (k : Int) : List ag:=(List.range n).map fun (i : Nat)=>ql (k + i)
def wz (n : Nat) (k : Int) : List Wr:=(List.range n).map fun (i : Nat)=>⟨k + 2 * i,ql (k + 2 * i + 1)⟩
@[simp] theorem aef (n : Nat) (k : Int) : (wv n k).length = n:=by simp [wv]
@[simp] theorem aeh (n : Nat) (k : Int) : (wz n k).length = n:=by simp [wz]
@[simp] theorem aee (n : Nat) (k : Int) (i : Nat) (h : i < (wv n k).length) : (wv n k)[i] = ql (k + i):=by simp [wv]
@[simp] theorem aeg (n : Nat) (k : Int) (i : Nat) (h : i < (wz n k).length) : (wz n k)[i] = ⟨k + 2 * i,ql (k + 2 * i + 1)⟩:=by simp [wz]
def foldI {β γ : Type} (go : Nat→γ→β→γ) : Nat→List β→γ→γ
 | _,[],g=>g
 | i,b :: l,g=>foldI go (i + 1) l (go i g b)
theorem gO {xt : Nat} {β γ : Type} {f : ah→bG} (l : List β) (st : Nat→γ→ah) (go : Nat→γ→β→γ) (E : γ→ah) (Inv : Nat→γ→Prop) (g : γ) (h0 : Inv 0 g)
  (h : ∀ i b g,l[i]? = some b→i < l.length→Inv i g→f (st i g) = some (.normal,st (i + 1) (go i g b)))
  (hI : ∀ i b g,l[i]? = some b→Inv i g→Inv (i + 1) (go i g b))
  (hend : ∀ g,Inv l.length g→f (st l.length g) = some (.exit xt,E g)) :
  aD f (st 0 g) = some (.exit xt,E (foldI go 0 l g)):=by
 suffices H : ∀ (r : List β) (i : Nat) (g : γ),Inv i g→l.drop i = r→i≤l.length→aD f (st i g) = some (.exit xt,E (foldI go i r g)) from H l 0 g h0 rfl (Nat.zero_le _)
 intro r
 induction r with
 | nil =>
  intro i g hi hr hl
  have : i = l.length:=by
   have:=congrArg List.length hr
   simp at this
   omega
  subst this
  rw [cM,hend g hi]
  rfl
 | cons b r ih =>
  intro i g hi hr hl
  have hlt : i < l.length:=by
   rcases Nat.lt_or_ge i l.length with h | h
   ·exact h
   ·rw [List.drop_eq_nil_of_le h] at hr; cases hr
  have hd:=List.drop_eq_getElem_cons hlt
  rw [hr] at hd
  have hb : l[i]? = some b:=by
   rw [List.getElem?_eq_getElem hlt]
   cases hd; rfl
  have hr' : l.drop (i + 1) = r:=by cases hd; rfl
  rw [cM,h i b g hb hlt hi]
  exact ih (i + 1) _ (hI i b g hb hi) hr' hlt
@[simp] theorem aeB (cs : List ag) (n : Nat) (t : ag) : (cs.map eS).modify n (fun x=>x.set 0 (X.str ⟨t.toArray⟩)) = (cs.set n t).map eS:=by
 apply List.ext_getElem?
 intro j
 rw [List.getElem?_modify,List.getElem?_map,List.getElem?_map,List.getElem?_set]
 by_cases h : n = j
 ·subst h
  simp only [if_true]
  by_cases h2 : n < cs.length
  ·simp [h2]
  ·simp [h2,List.getElem?_eq_none (Nat.le_of_not_lt h2)]
 ·simp only [h,if_false]
  cases cs[j]? <;> rfl
@[simp] def eB (b : Bool) : List X:=[.bool b]
@[simp] theorem aej (m : Md) (l : List Bool) : X.bx m (l.map eB) = l.map eB:=by induction l <;> simp_all [X.bx,X.cR,X.md]
@[simp] theorem ach (l : List Bool) : X.clean.aU (l.map eB) = true:=by induction l <;> simp_all [X.clean.aU,X.clean.bJ,X.clean]
theorem LA (l : List ag) : fR (l.map eS) = true:=by induction l <;> simp_all [fR,scalar]
theorem LB (l : List Wr) : fR (l.map eW) = true:=by induction l <;> simp_all [fR,scalar]
attribute [simp] LA LB
@[simp] theorem acg (a b : List (List X)) : X.clean.aU (a ++ b) = (X.clean.aU a && X.clean.aU b):=by
 induction a with
 | nil=>simp [X.clean.aU]
 | cons e a ih=>simp [X.clean.aU,ih,Bool.and_assoc]
@[simp] theorem aei (m : Md) (a b : List (List X)) : X.bx m (a ++ b) = X.bx m a ++ X.bx m b:=by
 induction a with
 | nil=>simp [X.bx]
 | cons e a ih=>simp [X.bx,ih]
structure lZ where
 code : List UInt8
 i : Nat
 h : Int
 hi : i≤code.length
 hl : code.length≤9223372036854775807
@[simp] def eU (b : UInt8) : List X:=[.int .u8 (b.toNat : Int)]
@[simp] theorem aez (m : Md) (l : List UInt8) : X.bx m (l.map eU) = l.map eU:=by induction l <;> simp_all [X.bx,X.cR,X.md]
@[simp] theorem acz (l : List UInt8) : X.clean.aU (l.map eU) = true:=by induction l <;> simp_all [X.clean.aU,X.clean.bJ,X.clean]
def iI (c : lZ) : List X:=[.row .sl 1 (c.code.map eU),.int .i64 c.i,.int .i64 c.h]
@[simp] theorem ac4 (c : lZ) : (iI c).length = 3:=rfl
@[simp] theorem ac6 (c : lZ) : (iI c).take 3 = iI c:=rfl
@[simp] theorem ac1 (c : lZ) : (iI c).drop 3 = []:=rfl
@[simp] theorem ac5 (ks : List Nat) (c : lZ) : X.lN ks (iI c) = iI c:=rfl
@[simp] theorem ac2 (r : Nat) (p : Path) (c : lZ) : X.fh r p (iI c) = iI c:=rfl
@[simp] theorem ac3 (r : Nat) (p : Path) (c : lZ) : X.mJ r p (iI c) = iI c:=rfl
@[simp] theorem ac0 (c : lZ) : X.clean.bJ (iI c) = true:=by simp [iI,X.clean.bJ,X.clean]
@[simp] theorem acZ (c : lZ) : X.bare.gD (iI c) = true:=by simp [iI,X.bare.gD,X.bare]
end M
namespace M
open Go Go.RowKit
inductive Ty where
 | int (k : IntKind)
 | bool
 | str
 | row (ts : List Ty)
inductive gA : Ty→X→Prop
 | int {k n} : (Lit.int k n).wf = true→gA (.int k) (.int k n)
 | bool {b} : gA .bool (.bool b)
 | str {s : ByteArray} : s.size≤maxLen→gA .str (.str s)
 | row {ts xs} : xs.length≤maxLen→(∀ r : List X,r∈xs→r.length = ts.length)→(∀ (r : List X),r∈xs→∀ (j : Nat) ty x,ts[j]? = some ty→r[j]? = some x→gA ty x)→gA (.row ts) (.row .sl ts.length xs)
structure x7 (w : World) (ty : Ty) (c : C) : Prop where
 cell : c.cell
 b8 : c.b8
 fits : c.fits .sl
 ok : c.ok w (Zf (fun b _=>b < w.heap.size) fun _ _=>False)
 fp : ∀ b k,¬ c.fp b k
 tV : gA ty c.er
def jg (w : World) : List Ty→List Value→List C→Prop
 | [],[],[]=>True
 | ty :: ts,v :: vs,c :: cs=>c.val = v∧x7 w ty c∧jg w ts vs cs
 | _,_,_=>False
theorem Je {w : World} : ∀ {ts : List Ty} {vs : List Value} {cs : List C} {ts' : List Ty} {vs' : List Value} {cs' : List C},jg w ts vs cs→jg w ts' vs' cs'→jg w (ts ++ ts') (vs ++ vs') (cs ++ cs')
 | [],[],[],_,_,_,_,h=>h
 | _ :: _,_ :: _,_ :: _,_,_,_,⟨h1,h2,h3⟩,h=>⟨h1,h2,Je h3 h⟩
theorem Jf {w : World} : ∀ {ts : List Ty} {vs : List Value} {cs : List C},jg w ts vs cs→vs.length = ts.length∧cs.length = ts.length∧vs = cs.map C.val
 | [],[],[],_=>⟨rfl,rfl,rfl⟩
 | _ :: _,_ :: _,_ :: _,⟨h1,h2,h3⟩=>by
  obtain ⟨e1,e2,e3⟩:=Jf h3
  exact ⟨by simp [e1],by simp [e2],by simp [h1,← e3]⟩
theorem Dl {w : World} : ∀ {ts : List Ty} {vs : List Value} {cs : List C},jg w ts vs cs→∀ {j : Nat},j < ts.length→∃ ty c,ts[j]? = some ty∧cs[j]? = some c∧vs[j]? = some c.val∧x7 w ty c
 | ty :: ts,v :: vs,c :: cs,⟨h1,h2,h3⟩,0,_=>⟨ty,c,rfl,rfl,by simp [h1],h2⟩
 | ty :: ts,v :: vs,c :: cs,⟨h1,h2,h3⟩,j + 1,h=>by
  obtain ⟨ty,c,a1,a2,a3,a4⟩:=Dl h3 (j:=j) (by simpa using h)
  exact ⟨ty,c,by simpa using a1,by simpa using a2,by simpa using a3,a4⟩
def tg (P : Program) (r : TypeId→Option (List Ty)) : Nat→List Field→Option (List Ty)
 | _,[]=>some []
 | o,f :: fs=>if f.offset = o then (r f.type).bind fun ts=>if ts.length = P.cellsOf f.type then (tg P r (o + ts.length) fs).map (ts ++ ·) else none else none
def gy (P : Program) : Nat→Bool→TypeId→Option (List Ty)
 | 0,_,_=>none
 | n + 1,deep,t=>match P.underlying t with
  | some .bool=>some [.bool]
  | some (.int k)=>some [.int k]
  | some .string=>some [.str]
  | some (.slice e)=>if deep then (gy P n true e).bind fun ts=>if ts.length = P.cellsOf e∧0 < P.cellsOf e then some [.row ts] else none else none
  | some (.struct fs)=>(tg P (gy P n deep) 0 fs.toList).bind fun ts=>if ts.length = P.cellsOf t then some ts else none
  | _=>none
section
variable {H : Type} {enc : TypeId×Value→H} {P : Program} {w : World} {sp : Nat→Bool} {held : Bool}
theorem Ma {r : TypeId→Option (List Ty)} {cs : List Value}
  (hr : ∀ t ts fuel cs' x,r t = some ts→DataW.trod enc P w 0 sp held fuel t cs' = some x→(∀ v∈cs',v∈cs)→∃ Cs,jg w ts cs' Cs) :
  ∀ (fs : List Field) (o : Nat) (ts : List Ty),tg P r o fs = some ts→(∀ f∈fs,∃ fuel x,DataW.trod enc P w 0 sp held fuel f.type ((cs.drop f.offset).take (P.cellsOf f.type)) = some x) →
   ∃ Cs,jg w ts ((cs.drop o).take ts.length) Cs
 | [],o,ts,h,_=>by
  cases h
  exact ⟨[],by simp [jg]⟩
 | f :: fs,o,ts,h,hx=>by
  simp only [tg] at h
  split at h
  ·rename_i ho
   simp only [Option.bind_eq_some_iff] at h
   obtain ⟨t1,h1,h⟩:=h
   split at h
   ·rename_i hl
    simp only [Option.map_eq_some_iff] at h
    obtain ⟨t2,h2,rfl⟩:=h
    obtain ⟨fuel,x,hf⟩:=hx f (List.mem_cons_self ..)
    obtain ⟨C1,g1⟩:=hr _ _ _ _ _ h1 hf fun v hv=>List.mem_of_mem_drop (List.mem_of_mem_take hv)
    obtain ⟨C2,g2⟩:=Ma hr fs _ _ h2 fun f hf=>hx f (List.mem_cons_of_mem _ hf)
    refine ⟨C1 ++ C2,?_⟩
    rw [List.length_append,List.take_add,List.drop_drop]
    rw [ho,← hl] at g1
    exact Je g1 g2
   ·cases h
  ·cases h
theorem Ym {w : World} {g o n m : Nat} {spot : Option Nat} {vs : List Value} (hn : 0 < n) (h : w.cells? 0 ((⟨g,o,spot⟩ : Addr).add (0 * m)) n = some vs) : spot = none:=by
 obtain ⟨_,hl,e3⟩:=World.cells?_some h
 have e4:=e3 0 hn
 have : ∃ v,vs[0]? = some v:=⟨vs[0],List.getElem?_eq_getElem (by omega)⟩
 obtain ⟨v,hv⟩:=this
 rw [hv] at e4
 have ha : ((⟨g,o,spot⟩ : Addr).add (0 * m)).add 0 = ⟨g,o,spot⟩:=by simp [Addr.add]
 rw [ha] at e4
 unfold World.cell? at e4
 cases spot with
 | none=>rfl
 | some k =>
  split at e4
  ·simp at e4
  ·cases e4
theorem trod_good : ∀ (n : Nat) (deep : Bool) (t : TypeId) (ts : List Ty),gy P n deep t = some ts→∀ (fuel : Nat) (cs : List Value) (x : DataW H×List MemPlace),DataW.trod enc P w 0 sp held fuel t cs = some x→∃ Cs,jg w ts cs Cs
 | 0,_,_,_,h,_,_,_,_=>by cases h
 | n + 1,deep,t,ts,h,fuel,cs,x,hx=>by
  simp only [gy] at h
  split at h
  ·rename_i hu
   cases h
   obtain ⟨b,rfl,rfl⟩:=DataW.trod_bool hu hx
   exact ⟨[.bool b],rfl,⟨trivial,trivial,trivial,trivial,fun _ _ h=>h,.bool⟩,trivial⟩
  ·rename_i k hu
   cases h
   obtain ⟨m,rfl,rfl,hw⟩:=DataW.trod_int hu hx
   exact ⟨[.int k m],rfl,⟨trivial,trivial,trivial,trivial,fun _ _ h=>h,.int hw⟩,trivial⟩
  ·rename_i hu
   cases h
   obtain ⟨s,rfl,rfl,hw⟩:=DataW.trod_string hu hx
   exact ⟨[.str s],rfl,⟨trivial,trivial,trivial,hw,fun _ _ h=>h,.str hw⟩,trivial⟩
  ·rename_i e hu
   split at h
   ·rename_i hd
    simp only [Option.bind_eq_some_iff] at h
    obtain ⟨te,h1,h⟩:=h
    split at h
    ·rename_i hl
     obtain ⟨hl,hpos⟩:=hl
     cases h
     rcases DataW.trod_slice hu hx with ⟨rfl,rfl⟩ | ⟨a,len,cap,elems,rest,m,rfl,rfl,rfl,_,hlc,hcm,hel,fH,_,_⟩
     ·refine ⟨[.row .sl te.length none 0 0 fun _ _=>.dead undef],rfl,⟨trivial,trivial,.inr (.inl rfl),⟨Nat.le_refl _,fun i j hi=>by omega,fun i j hi=>by omega,fun h=>(by cases h),fun i j hi=>by omega⟩,fun b k h=>(by cases h.1),?_⟩,trivial⟩
      exact gA.row (xs:=[]) (by simp) (fun r hr=>by cases hr) (fun r hr=>by cases hr)
     ·obtain ⟨g,o,spot⟩:=a
      by_cases hl0 : len = 0
      ·subst hl0
       refine ⟨[.row .sl te.length (some (g,o,spot)) 0 cap fun _ _=>.dead undef],rfl,⟨trivial,trivial,.inr (.inl rfl),⟨hlc,fun i j hi=>by omega,fun i j hi=>by omega,fun h=>(by cases h),fun i j hi=>by omega⟩,fun b k h=>(by cases h.1),?_⟩,trivial⟩
       exact gA.row (xs:=[]) (by simp) (fun r hr=>by cases hr) (fun r hr=>by cases hr)
      have U9 : spot = none:=by
       have:=fH 0 (by omega)
       rw [List.getElem?_eq_getElem (by omega),Option.bind_eq_some_iff] at this
       obtain ⟨vs,e1,e2⟩:=this
       exact Ym hpos e1
      subst U9
      have hex : ∀ i,∃ (vs : List Value) (l : List C),i < len→w.cells? 0 ((⟨g,o,none⟩ : Addr).add (i * P.cellsOf e)) (P.cellsOf e) = some vs∧jg w te vs l:=fun i=>by
       by_cases hi : i < len
       ·have:=fH i hi
        rw [List.getElem?_eq_getElem (by omega),Option.bind_eq_some_iff] at this
        obtain ⟨vs,e1,e2⟩:=this
        obtain ⟨l,hl⟩:=trod_good n true _ _ h1 _ _ _ e2
        exact ⟨vs,l,fun _=>⟨e1,hl⟩⟩
       ·exact ⟨[],[],fun h=>(hi h).elim⟩
      let vs:=fun i=>(hex i).choose
      let l:=fun i=>(hex i).choose_spec.choose
      have hvl : ∀ i,i < len→w.cells? 0 ((⟨g,o,none⟩ : Addr).add (i * P.cellsOf e)) (P.cellsOf e) = some (vs i)∧jg w te (vs i) (l i):=fun i=>(hex i).choose_spec.choose_spec
      have hij : ∀ i j,i < len→j < te.length→∃ ty,te[j]? = some ty∧(l i)[j]? = some ((l i).getD j (.dead undef))∧w.cell? ⟨g,o + i * te.length + j,none⟩ = some ((l i).getD j (.dead undef)).val∧x7 w ty ((l i).getD j (.dead undef)):=fun i j hi hj=>by
       obtain ⟨e1,e2⟩:=hvl i hi
       obtain ⟨ty,c,a1,a2,a3,a4⟩:=Dl e2 hj
       have hc : (l i).getD j (.dead undef) = c:=by rw [List.getD_eq_getElem?_getD,a2]; rfl
       rw [hc]
       obtain ⟨_,_,e3⟩:=World.cells?_some e1
       have e4:=e3 j (by omega)
       rw [a3] at e4
       refine ⟨ty,a1,a2,?_,a4⟩
       rw [← e4]
       congr 1
       rw [hl]
       unfold Addr.add
       split <;> split <;> simp_all
      have hb : ∀ i j,i < len→j < te.length→g < w.heap.size:=fun i j hi hj=>by
       obtain ⟨_,_,_,h3,_⟩:=hij i j hi hj
       exact World.block_lt_of_cell? w _ h3
      refine ⟨[.row .sl te.length (some (g,o,none)) len cap fun i j=>(l i).getD j (.dead undef)],rfl,⟨trivial,trivial,.inr (.inl rfl),⟨hlc,fun i j hi hj=>⟨g,o,rfl,?_,fun _=>hb i j hi hj⟩,fun i j hi hj=>?_,fun h=>(by cases h),fun i j hi hj b k hf=>?_⟩,fun b k h=>(by cases h.1),?_⟩,trivial⟩
      ·obtain ⟨ty,_,_,h3,h4⟩:=hij i j hi hj
       exact h3
      ·obtain ⟨ty,_,_,h3,h4⟩:=hij i j hi hj
       exact ⟨h4.cell,h4.b8,h4.fits,h4.ok⟩
      ·obtain ⟨ty,_,_,h3,h4⟩:=hij i j hi hj
       exact (h4.fp b k hf).elim
      ·refine gA.row (by simpa using Nat.le_trans hlc hcm) (fun r hr=>?_) fun r hr j ty x hty DR=>?_
       ·simp only [List.mem_map,List.mem_range] at hr
        obtain ⟨i,_,rfl⟩:=hr
        simp
       ·simp only [List.mem_map,List.mem_range] at hr
        obtain ⟨i,hi,rfl⟩:=hr
        have hj : j < te.length:=by
         rcases Nat.lt_or_ge j te.length with h | h
         ·exact h
         ·rw [List.getElem?_eq_none h] at hty; cases hty
        obtain ⟨ty',e1,_,_,h4⟩:=hij i j hi hj
        rw [e1] at hty
        cases hty
        rw [List.getElem?_map,List.getElem?_range hj] at DR
        simp only [Option.map_some,Option.some.injEq] at DR
        subst DR
        exact h4.tV
    ·cases h
   ·cases h
  ·rename_i fs hu
   simp only [Option.bind_eq_some_iff] at h
   obtain ⟨te,h1,h⟩:=h
   split at h
   ·rename_i hl
    cases h
    obtain ⟨xs,m,rfl,rfl,hcs,hxl,fH⟩:=DataW.trod_struct hu hx
    obtain ⟨Cs,hC⟩:=Ma (cs:=cs) (fun t ts' fuel cs' x hr ht hm=>trod_good n deep t ts' hr fuel cs' x ht) fs.toList 0 ts h1 fun f hf=>by
     obtain ⟨i,hi,rfl⟩:=List.getElem_of_mem hf
     have hi' : i < fs.size:=by simpa using hi
     have:=fH i (fs[i]) (by simp [hi'])
     rw [List.getElem?_eq_getElem (by omega)] at this
     exact ⟨_,_,by simpa using this⟩
    refine ⟨Cs,?_⟩
    rw [List.drop_zero,hl,← hcs,List.take_length] at hC
    exact hC
   ·cases h
  ·cases h
theorem Ga : ∀ (n : Nat) (deep : Bool) (t : TypeId) (ts : List Ty),gy P n deep t = some ts→∀ (fuel : Nat) (cs : List Value) (x : DataW H×List MemPlace),DataW.trod enc P w 0 (fun _=>true) held fuel t cs = some x→DataW.trod enc P w 0 (fun b=>decide (b < w.heap.size)) held fuel t cs = some x
 | 0,_,_,_,h,_,_,_,_=>by cases h
 | n + 1,deep,t,ts,h,0,cs,x,hx=>by simp [DataW.trod] at hx
 | n + 1,deep,t,ts,h,fuel + 1,cs,x,hx=>by
  simp only [gy] at h
  split at h
  ·rename_i hu
   obtain ⟨b,rfl,rfl⟩:=DataW.trod_bool hu hx
   simp [DataW.trod,hu]
  ·rename_i k hu
   obtain ⟨m,rfl,rfl,hw⟩:=DataW.trod_int hu hx
   simp [DataW.trod,hu,hw]
  ·rename_i hu
   obtain ⟨s,rfl,rfl,hw⟩:=DataW.trod_string hu hx
   simp [DataW.trod,hu,hw]
  ·rename_i e hu
   split at h
   ·simp only [Option.bind_eq_some_iff] at h
    obtain ⟨te,h1,h⟩:=h
    split at h
    ·rename_i hl
     obtain ⟨hl,hpos⟩:=hl
     rcases DataW.trod_slice hu hx with ⟨rfl,rfl⟩ | ⟨a,len,cap,elems',rest',m,_,rfl,_⟩
     ·simp [DataW.trod,hu]
     ·unfold DataW.trod at hx ⊢
      simp only [hu] at hx ⊢
      split at hx
      ·rename_i hc
       rw [if_pos hc]
       simp only [Option.map_eq_some_iff,Option.bind_eq_some_iff,if_true] at hx ⊢
       obtain ⟨elems,he,rest,pX,rfl⟩:=hx
       have one : ∀ (i : Nat) (y : DataW H×List MemPlace),(w.cells? 0 (a.add (i * P.cellsOf e)) (P.cellsOf e)).bind (DataW.trod enc P w 0 (fun _=>true) held fuel e) = some y→(w.cells? 0 (a.add (i * P.cellsOf e)) (P.cellsOf e)).bind (DataW.trod enc P w 0 (fun b=>decide (b < w.heap.size)) held fuel e) = some y:=fun i y hv=>by
        simp only [Option.bind_eq_some_iff] at hv ⊢
        obtain ⟨cs',ia,hy'⟩:=hv
        exact ⟨cs',ia,Ga n true _ _ h1 _ _ _ hy'⟩
       refine ⟨elems,mapM_carry he fun i y _ _ hv=>one i y hv,rest,?_,rfl⟩
       by_cases hb : a.block < w.heap.size
       ·rw [if_pos (by simpa using hb)]
        exact mapM_carry pX fun i y _ _ hv=>one (len + i) y hv
       ·rw [if_neg (by simpa using hb)]
        have : cap - len = 0:=by
         rcases Nat.eq_zero_or_pos (cap - len) with h | h
         ·exact h
         ·have h0:=mapM_some_get pX 0 0 (by simp [h])
          have hl' : 0 < rest.length:=by have:=mapM_some_length pX; simp at this; omega
          rw [List.getElem?_eq_getElem hl',Option.bind_eq_some_iff] at h0
          obtain ⟨vs,e1,_⟩:=h0
          have:=World.cells?_block e1 hpos
          refine (hb ?_).elim
          unfold Addr.add at this
          split at this <;> exact this
        rw [this] at pX
        exact pX
      ·cases hx
    ·cases h
   ·cases h
  ·rename_i fs hu
   simp only [Option.bind_eq_some_iff] at h
   obtain ⟨te,h1,h⟩:=h
   unfold DataW.trod at hx ⊢
   simp only [hu] at hx ⊢
   have each : ∀ (o : Nat) (l : List Field) (ts : List Ty),tg P (gy P n deep) o l = some ts→∀ f∈l,∃ t1,gy P n deep f.type = some t1:=by
    intro o l
    induction l generalizing o with
    | nil=>intro _ _ f hf; cases hf
    | cons f l ih =>
     intro ts h f' hf'
     simp only [tg] at h
     split at h
     ·simp only [Option.bind_eq_some_iff] at h
      obtain ⟨t1,e1,h⟩:=h
      split at h
      ·simp only [Option.map_eq_some_iff] at h
       obtain ⟨t2,e2,_⟩:=h
       rcases List.mem_cons.1 hf' with rfl | hf'
       ·exact ⟨t1,e1⟩
       ·exact ih _ _ e2 f' hf'
      ·cases h
     ·cases h
   split at hx
   ·rename_i hc
    rw [if_pos hc]
    simp only [Option.map_eq_some_iff] at hx ⊢
    obtain ⟨xs,hx,rfl⟩:=hx
    refine ⟨xs,mapM_carry hx fun f y hf _ hv=>?_,rfl⟩
    obtain ⟨t1,e1⟩:=each _ _ _ h1 f hf
    exact Ga n deep _ _ e1 _ _ _ hv
   ·cases hx
  ·cases h
inductive kn where
 | one (ty : Ty)
 | agg (tys : List Ty)
inductive nq : kn→X→Prop
 | one {ty x} : gA ty x→nq (.one ty) x
 | agg {tys : List Ty} {l : List X} : l.length = tys.length→(∀ (j : Nat) ty x,tys[j]? = some ty→l[j]? = some x→gA ty x)→nq (.agg tys) (.agg l)
def pg (P : Program) (t : TypeId) : Option kn:=match P.underlying t with
 | some (.struct _)=>(gy P 20 true t).map .agg
 | some .bool=>some (.one .bool)
 | some (.int k)=>some (.one (.int k))
 | some .string=>some (.one .str)
 | some (.slice _)=>(gy P 20 true t).bind fun
  | [ty]=>some (.one ty)
  | _=>none
 | _=>none
theorem GZ {c : C} (h1 : c.cell) (h2 : c.b8) : c.bare:=by
 cases c <;> first | trivial | exact h2.elim
structure GC (w : World) (a : kn) (v : Value) (c : C) : Prop where
 val : c.val = v
 ok : c.ok w (Zf (fun b _=>b < w.heap.size) fun _ _=>False)
 bare : c.bare
 fp : ∀ b k,¬ c.fp b k
 tV : nq a c.er
theorem yX {ty : Ty} {cs : List Value} {Cs : List C} {v : Value} (h : jg w [ty] cs Cs) (e : cs = [v]) : ∃ c,GC w (.one ty) v c:=by
 subst e
 match Cs,h with
 | [c],⟨h1,h2,_⟩=>exact ⟨c,h1,h2.ok,GZ h2.cell h2.b8,h2.fp,.one h2.tV⟩
theorem OG {r : Reach} {base : Nat} {t : TypeId} {v : Value} {d : DataW H} {p : List MemPlace} {a : kn} (ha : pg P t = some a) (hv : Value.okWide P w r base t v) (hd : DataW.Trod enc P w 0 sp held t v d p) : ∃ c,GC w a v c:=by
 obtain ⟨fuel,hf⟩:=hd
 unfold pg at ha
 split at ha
 ·rename_i fs hu
  simp only [Option.map_eq_some_iff] at ha
  obtain ⟨ts,ht,rfl⟩:=ha
  unfold Value.okWide at hv
  rw [hu] at hv
  obtain ⟨cs,rfl,_,ts',_,_,hcell⟩:=hv
  obtain ⟨Cs,hC⟩:=trod_good _ _ _ _ ht _ _ _ hf
  obtain ⟨l1,l2,l3⟩:=Jf hC
  have fH : ∀ j,j < Cs.length→∃ ty,ts[j]? = some ty∧x7 w ty (Cs.getD j (.dead undef)):=fun j hj=>by
   obtain ⟨ty,c,a1,a2,a3,a4⟩:=Dl hC (j:=j) (by omega)
   exact ⟨ty,a1,by rw [List.getD_eq_getElem?_getD,a2]; exact a4⟩
  refine ⟨.agg Cs.length fun j=>Cs.getD j (.dead undef),?_,⟨fun j hj=>?_,fun j hj b k hf=>?_⟩,fun j hj=>?_,fun b k ⟨j,hj,hf⟩=>?_,?_⟩
  ·show Value.agg _ = _
   congr 1
   apply Array.ext'
   show (List.range Cs.length).map (fun j=>(Cs.getD j (.dead undef)).val) = cs.toList
   have : (Value.agg cs).cells.toList = cs.toList:=rfl
   rw [← this,l3]
   letI : Bs:=⟨w⟩
   exact j7 Cs _ C.val
  ·obtain ⟨_,_,h⟩:=fH j hj; exact ⟨h.cell,h.ok⟩
  ·obtain ⟨_,_,h⟩:=fH j hj; exact (h.fp b k hf).elim
  ·obtain ⟨_,_,h⟩:=fH j hj; exact GZ h.cell h.b8
  ·obtain ⟨_,_,h⟩:=fH j hj; exact h.fp b k hf
  ·refine nq.agg (by simpa using l2) fun j ty x hty hx=>?_
   have hj : j < Cs.length:=by
    rcases Nat.lt_or_ge j Cs.length with h | h
    ·exact h
    ·rw [List.getElem?_eq_none (by simpa using h)] at hx; cases hx
   obtain ⟨ty',e1,h⟩:=fH j hj
   rw [e1] at hty
   cases hty
   rw [List.getElem?_map,List.getElem?_range hj] at hx
   simp only [Option.map_some,Option.some.injEq] at hx
   subst hx
   exact h.tV
 ·rename_i hu
  cases ha
  obtain ⟨Cs,hC⟩:=trod_good 1 true t [.bool] (by simp [gy,hu]) _ _ _ hf
  obtain ⟨b,hb,_⟩:=DataW.trod_bool hu hf
  exact yX hC (v:=v) (by
   unfold Value.okWide at hv; rw [hu] at hv
   unfold Cell.okWide at hv; rw [hu] at hv; unfold Cell.ok at hv; rw [hu] at hv
   cases v <;> first | rfl | (simp at hv; done))
 ·rename_i k hu
  cases ha
  obtain ⟨m,hb,_⟩:=DataW.trod_int hu hf
  obtain ⟨Cs,hC⟩:=trod_good 1 true t [.int k] (by simp [gy,hu]) _ _ _ hf
  exact yX hC (v:=v) (by
   unfold Value.okWide at hv; rw [hu] at hv
   unfold Cell.okWide at hv; rw [hu] at hv; unfold Cell.ok at hv; rw [hu] at hv
   cases v <;> first | rfl | (simp at hv; done))
 ·rename_i hu
  cases ha
  obtain ⟨m,hb,_⟩:=DataW.trod_string hu hf
  obtain ⟨Cs,hC⟩:=trod_good 1 true t [.str] (by simp [gy,hu]) _ _ _ hf
  exact yX hC (v:=v) (by
   unfold Value.okWide at hv; rw [hu] at hv
   unfold Cell.okWide at hv; rw [hu] at hv; unfold Cell.ok at hv; rw [hu] at hv
   cases v <;> first | rfl | (simp at hv; done))
 ·rename_i e hu
  simp only [Option.bind_eq_some_iff] at ha
  obtain ⟨ts,ht,ha⟩:=ha
  split at ha
  ·rename_i ty
   cases ha
   have hc : Cell.okWide P w r base t v:=by unfold Value.okWide at hv; rw [hu] at hv; exact hv
   have hv1 : v.cells.toList = [v]:=by
    unfold Cell.okWide at hc; rw [hu] at hc; unfold Cell.ok at hc; rw [hu] at hc
    cases v <;> first | rfl | (simp at hc; done)
   obtain ⟨Cs,hC⟩:=trod_good _ _ _ _ ht _ _ _ hf
   exact yX hC hv1
  ·cases ha
 ·cases ha
def qT : List kn→List X→Prop
 | [],[]=>True
 | a :: as,x :: xs=>nq a x∧qT as xs
 | _,_=>False
theorem GQ {r : Reach} {base : Nat} : ∀ {ts : List TypeId} {as : List kn} {vs : List Value} {ds : List (DataW H)} {p : List MemPlace},ts.map (pg P) = as.map some →
  (∀ (j : Nat) t v,ts[j]? = some t→vs[j]? = some v→Value.okWide P w r base t v)→DataW.TrodAll enc P w 0 sp held ts vs ds p →
  ∃ cs : List C,cs.map C.val = vs∧(∀ c∈cs,c.ok w (Zf (fun b _=>b < w.heap.size) fun _ _=>False)∧c.bare∧∀ b k,¬ c.fp b k)∧qT as (cs.map C.er)
 | [],[],[],[],_,_,_,_=>⟨[],rfl,fun _ h=>(by cases h),trivial⟩
 | t :: ts,a :: as,v :: vs,d :: ds,_,ha,hv,⟨p,q,h1,h2,_⟩=>by
  simp only [List.map_cons,List.cons.injEq] at ha
  obtain ⟨c,hc⟩:=OG ha.1 (hv 0 t v rfl rfl) h1
  obtain ⟨cs,e1,e2,e3⟩:=GQ ha.2 (fun j t' v' ht cV=>hv (j + 1) t' v' (by simpa using ht) (by simpa using cV)) h2
  refine ⟨c :: cs,by simp [hc.val,e1],fun x hx=>?_,⟨hc.tV,e3⟩⟩
  rcases List.mem_cons.1 hx with rfl | hx
  ·exact ⟨hc.ok,hc.bare,hc.fp⟩
  ·exact e2 x hx
theorem ab9 {r : Reach} {base : Nat} {ts : List TypeId} {as : List kn} {vs : List Value} {ds : List (DataW H)} {p : List MemPlace} {f : FuncId} (ha : ts.map (pg P) = as.map some)
  (hv : ∀ (j : Nat) t v,ts[j]? = some t→vs[j]? = some v→Value.okWide P w r base t v) (hd : DataW.TrodAll enc P w 0 sp held ts vs ds p)
  (Uh : ∀ xs,qT as xs→@AC ⟨w⟩ P f xs fun r _=>r = .bool true) : Calls P f vs.toArray w fun e w'=>e = .returned (.bool true)∧Below w.heap.size w w':=by
 obtain ⟨cs,rfl,hcs,hc⟩:=GQ ha hv hd
 refine (Uh _ hc w (fun b _=>b < w.heap.size) (fun _ _=>False) cs rfl ⟨fun x hx=>(hcs x hx).1,fun x hx=>(hcs x hx).2.1,fun x hx b k hf=>((hcs x hx).2.2 b k hf).elim,fun b k h=>h.elim id False.elim,?_⟩ fun b hb=>⟨rfl,fun k=>.inl hb⟩).mono fun e w' ⟨r,ps,az,hD,hr⟩=>?_
 ·refine List.pairwise_iff_getElem.2 fun i j hi hj _ b k hf=>((hcs _ (List.getElem_mem hi)).2.2 b k hf).elim
 ·letI : Bs:=⟨w⟩
  have hr':=nQ hr
  subst hr'
  exact ⟨hD.ends,(hD.ext.mono (S':=fun _ _=>False) fun b k ⟨x,hx,hf⟩ _=>(hcs x hx).2.2 b k hf).below⟩
theorem OE {t : TypeId} {a : kn} (h : pg P t = some a) : ∃ n deep ts,gy P n deep t = some ts:=by
 unfold pg at h
 split at h
 ·simp only [Option.map_eq_some_iff] at h
  obtain ⟨ts,ht,_⟩:=h
  exact ⟨_,_,ts,ht⟩
 ·rename_i hu; exact ⟨1,true,[.bool],by simp [gy,hu]⟩
 ·rename_i k hu; exact ⟨1,true,[.int k],by simp [gy,hu]⟩
 ·rename_i hu; exact ⟨1,true,[.str],by simp [gy,hu]⟩
 ·simp only [Option.bind_eq_some_iff] at h
  obtain ⟨ts,ht,_⟩:=h
  exact ⟨_,_,ts,ht⟩
 ·cases h
theorem aa8 {w' : World} (hb : Below w.heap.size w w') : ∀ {ts : List TypeId} {as : List kn} {vs : List Value} {ds : List (DataW H)} {p : List MemPlace},ts.map (pg P) = as.map some →
  DataW.TrodAll enc P w 0 (fun _=>true) held ts vs ds p→DataW.TrodAll enc P w' 0 (fun b=>decide (b < w.heap.size)) held ts vs ds p
 | [],[],[],[],_,_,h=>h
 | t :: ts,a :: as,v :: vs,d :: ds,_,ha,⟨p,q,⟨fuel,h1⟩,h2,e⟩=>by
  simp only [List.map_cons,List.cons.injEq] at ha
  obtain ⟨n,deep,tt,ht⟩:=OE ha.1
  have h3:=Ga n deep t tt ht _ _ _ h1
  exact ⟨p,q,⟨fuel,DataW.trod_carry _ _ _ _ h3 fun m hm=>hb.same (DataW.trod_lt _ _ _ _ h3 m hm)⟩,aa8 hb ha.2 h2,e⟩
end
end M
namespace M
open Go
def ko (ts : List Ty) (r : List X) : Prop:=r.length = ts.length∧∀ (j : Nat) ty x,ts[j]? = some ty→r[j]? = some x→gA ty x
theorem ko.nil {r : List X} (h : ko [] r) : r = []:=List.length_eq_zero_iff.1 h.1
theorem ko.cons {ty : Ty} {ts : List Ty} {r : List X} (h : ko (ty :: ts) r) : ∃ x r',r = x :: r'∧gA ty x∧ko ts r':=by
 obtain ⟨h1,h2⟩:=h
 cases r with
 | nil=>cases h1
 | cons x r=>exact ⟨x,r,rfl,h2 0 ty x rfl rfl,by simpa using h1,fun j ty x ht hx=>h2 (j + 1) ty x (by simpa using ht) (by simpa using hx)⟩
theorem H6 {x : X} (h : gA .str x) : ∃ s : ag,x = .str ⟨s.toArray⟩∧s.length≤9223372036854775807:=by
 cases h with
 | str h=>rename_i s; exact ⟨s.data.toList,by simp,by rw [Array.length_toList]; exact h⟩
theorem O1 {n : Int} (h : (Lit.int .i64 n).wf = true) : -9223372036854775808≤n∧n≤9223372036854775807:=by
 have h' : (decide (IntKind.i64.min≤n) && decide (n≤IntKind.i64.max)) = true:=h
 rw [Bool.and_eq_true,decide_eq_true_eq,decide_eq_true_eq] at h'
 exact h'
theorem QZ {x : X} (h : gA (.int .i64) x) : ∃ n : Int,x = .int .i64 n∧-9223372036854775808≤n∧n≤9223372036854775807:=by
 cases h with
 | int h =>
  rename_i n
  refine ⟨n,rfl,?_⟩
  exact O1 h
theorem Kj {α : Type} {e : α→List X} {ok : α→Prop} : ∀ {xs : List (List X)},(∀ r∈xs,∃ a,r = e a∧ok a)→∃ l : List α,xs = l.map e∧∀ a∈l,ok a
 | [],_=>⟨[],rfl,fun _ h=>by cases h⟩
 | r :: xs,h=>by
  obtain ⟨a,e1,e2⟩:=h r (List.mem_cons_self ..)
  obtain ⟨l,e3,e4⟩:=Kj (fun r hr=>h r (List.mem_cons_of_mem _ hr))
  refine ⟨a :: l,by simp [e1,e3],fun b hb=>?_⟩
  rcases List.mem_cons.1 hb with rfl | hb
  ·exact e2
  ·exact e4 b hb
theorem HZ {α : Type} (e : α→List X) (ok : α→Prop) {ts : List Ty} {x : X} (h : gA (.row ts) x) (hr : ∀ r,ko ts r→∃ a,r = e a∧ok a) : ∃ l : List α,x = .row .sl ts.length (l.map e)∧l.length≤9223372036854775807∧∀ a∈l,ok a:=by
 cases h with
 | row h1 h2 h3 =>
  rename_i xs
  obtain ⟨l,rfl,hl⟩:=Kj (e:=e) (ok:=ok) (xs:=xs) fun r hr'=>hr r ⟨h2 r hr',h3 r hr'⟩
  rw [List.length_map] at h1
  exact ⟨l,rfl,h1,hl⟩
theorem QW {tys : List Ty} {x : X} (h : nq (.agg tys) x) : ∃ l,x = .agg l∧ko tys l:=by
 cases h with
 | agg h1 h2=>exact ⟨_,rfl,h1,h2⟩
theorem acM {a : kn} {as : List kn} {xs : List X} (h : qT (a :: as) xs) : ∃ x xs',xs = x :: xs'∧nq a x∧qT as xs':=by
 match xs,h with
 | x :: xs',⟨h1,h2⟩=>exact ⟨x,xs',rfl,h1,h2⟩
theorem acN {xs : List X} (h : qT [] xs) : xs = []:=by
 match xs,h with
 | [],_=>rfl
structure abG (d : aV) : Prop where
 hb : d.cells.length≤9223372036854775807
 hs : ∀ s∈d.cells,s.length≤9223372036854775807
 hb' : d.pending.length≤9223372036854775807
 hs' : ∀ s∈d.pending,s.text.length≤9223372036854775807
 hi : ∀ s∈d.pending,-9223372036854775808≤s.at_∧s.at_≤9223372036854775807
end M
namespace M
open Go
end M
namespace M
open Go
theorem Gc (m : Nat) (h : m < 256) : oU [[.int .u8 (m : Int)]] = some [UInt8.ofNat m]:=by
 have:=Mf [UInt8.ofNat m]
 have e : ((UInt8.ofNat m).toNat : Int) = m:=by
  rw [UInt8.toNat_ofNat']
  omega
 simp only [List.map_cons,List.map_nil,e] at this
 exact this
theorem Cb {n : Int} (h1 : 0≤n) (h2 : n < 256) : IntKind.u8.wrap n = n:=by
 simp only [IntKind.wrap,IntKind.signed,IntKind.bits,Bool.false_and,Bool.false_eq_true,if_false]
 omega
def aL (n : Nat) : ag:=Lib.decDigits n
theorem Kw : ∀ (n : Nat) (out : ag),n≠0→iX n out = aL n ++ out:=by
 intro n
 induction n using Nat.strongRecOn with
 | ind n ih =>
  intro out h
  unfold iX aL
  rw [dif_neg h,Lib.decDigits]
  by_cases h1 : n < 10
  ·have e : n / 10 = 0:=by omega
   have e2 : n % 10 = n:=by omega
   rw [dif_pos h1,e,e2]
   unfold iX
   rw [dif_pos rfl]
   rfl
  ·rw [dif_neg h1,ih (n / 10) (by omega) _ (by omega)]
   unfold aL
   rw [List.append_assoc]
   rfl
theorem yB : aL 0 = [48]:=by unfold aL; rw [Lib.decDigits]; rfl
theorem nM (k : Nat) : ∀ (n : Nat),n < 10 ^ (k + 1)→(aL n).length≤k + 1:=by
 induction k with
 | zero =>
  intro n h
  unfold aL
  rw [Lib.decDigits,dif_pos (by simpa using h)]
  simp
 | succ k ih =>
  intro n h
  unfold aL
  rw [Lib.decDigits]
  by_cases h1 : n < 10
  ·rw [dif_pos h1]; simp
  ·rw [dif_neg h1,List.length_append]
   have:=ih (n / 10) (by rw [Nat.pow_succ] at h; omega)
   unfold aL at this
   simp only [List.length_cons,List.length_nil]
   omega
theorem Ek (n : Nat) : Lib.itoa (n : Int) = aL n:=by
 unfold Lib.itoa aL
 rw [if_neg (by omega)]
 rfl
def vF : List X→Option X
 | [.int .i64 n]=>if -9223372036854775808≤n∧n≤9223372036854775807 then some (.str ⟨(Go.Lib.itoa n).toArray⟩) else none
 | _=>none
theorem Vo (f : FuncId) (n : Nat) (h : n < 10 ^ 18) : iw f vF f [.int .i64 (n : Int)] = some (.str ⟨(aL n).toArray⟩,[.dead]):=by
 have h1 : (n : Int)≤9223372036854775807:=by omega
 have h2:=nM 17 n (by omega)
 simp [iw,vF,Ek,scalar,xK,h1]
 omega
end M
namespace M
open Go
def wS (s : ag) : Nat:=s.length
def wL {α : Type} (w : α→Nat) (l : List α) : Nat:=l.length + (l.map w).sum
theorem jI {α : Type} {w : α→Nat} : ∀ {l : List α} {a : α},a∈l→w a≤wL w l
 | b :: l,a,h=>by
  rcases List.mem_cons.1 h with rfl | h
  ·simp [wL]; omega
  ·have:=jI (w:=w) h
   simp [wL] at this ⊢; omega
theorem cm {α : Type} {w : α→Nat} (l : List α) : l.length≤wL w l:=by unfold wL; omega
def cy (n : Int) (w : Nat) : Int:=if (w : Int)≤n then n - w else -1
theorem iy (n : Int) (w : Nat) : ((w : Int)≤n∧cy n w = n - w)∨(n < (w : Int)∧cy n w = -1):=by
 unfold cy
 split
 ·exact .inl ⟨by assumption,rfl⟩
 ·exact .inr ⟨by omega,rfl⟩
theorem LS (w : Nat) (n : Int) : cy n w≤n∨cy n w < 0:=by have:=iy n w; omega
theorem F2 {α : Type} (w : α→Nat) : ∀ (l : List α) (n : Int),0≤n→iz (fun b n=>cy n (w b)) l n = cy n (l.map w).sum
 | [],n,h=>by simp [iz,cy,h]
 | b :: l,n,h=>by
  simp only [iz,List.map_cons,List.sum_cons]
  rcases iy n (w b) with ⟨h1,h2⟩ | ⟨h1,h2⟩
  ·rw [if_neg (by omega),F2 w l _ (by omega),h2]
   rcases iy (n - w b) (l.map w).sum with ⟨h3,h4⟩ | ⟨h3,h4⟩ <;> rcases iy n (w b + (l.map w).sum) with ⟨h5,h6⟩ | ⟨h5,h6⟩ <;> omega
  ·rw [if_pos (by omega)]
   rcases iy n (w b + (l.map w).sum) with ⟨h5,h6⟩ | ⟨h5,h6⟩ <;> omega
def bI (n : Int) : Prop:=-9223372036854775808≤n∧n≤9223372036854775807
def bS (s : ag) : Prop:=s.length≤9223372036854775807
def bB (_ : Bool) : Prop:=True
def bL {α : Type} (b : α→Prop) (l : List α) : Prop:=l.length≤9223372036854775807∧∀ a∈l,b a
@[simp] def eI (n : Int) : List X:=[.int .i64 n]
@[simp] theorem aep (m : Md) (l : List Int) : X.bx m (l.map eI) = l.map eI:=by induction l <;> simp_all [X.bx,X.cR,X.md]
@[simp] theorem aco (l : List Int) : X.clean.aU (l.map eI) = true:=by induction l <;> simp_all [X.clean.aU,X.clean.bJ,X.clean]
structure aF where
 name : ag
 value : ag
 deriving DecidableEq
@[simp] def aK (a : aF) : List X:=[.str ⟨(a.name).toArray⟩,.str ⟨(a.value).toArray⟩]
@[simp] theorem aeo (m : Md) (l : List aF) : X.bx m (l.map aK) = l.map aK:=by induction l <;> simp_all [X.bx,X.cR,X.md]
@[simp] theorem acn (l : List aF) : X.clean.aU (l.map aK) = true:=by induction l <;> simp_all [X.clean.aU,X.clean.bJ,X.clean]
def bg (a : aF) : Nat:=a.name.length + a.value.length
structure GU (x : aF) : Prop where
 adX : bS x.name
 ad7 : bS x.value
theorem Q3 (a b : aF) : decide (a = b) = (decide (a.name = b.name) && decide (a.value = b.value)):=by
 cases a; cases b; simp [Bool.and_assoc]
structure bH where
 status : Int
 fields : List aF
 body : ag
 deriving DecidableEq
@[simp] def jM (m : Md) (a : bH) : List X:=[.int .i64 a.status,.row m 2 ((a.fields).map aK),.str ⟨(a.body).toArray⟩]
@[simp] theorem aev (m m' : Md) (l : List bH) : X.bx m (l.map (jM m')) = l.map (jM m):=by induction l <;> simp_all [X.bx,X.cR,X.md]
@[simp] theorem acu (l : List bH) : X.clean.aU (l.map (jM .own)) = true:=by induction l <;> simp_all [X.clean.aU,X.clean.bJ,X.clean]
@[simp] theorem acI (l : List bH) : X.clean.aU (l.map (jM .sl)) = true:=by induction l <;> simp_all [X.clean.aU,X.clean.bJ,X.clean]
def b9 (a : bH) : Nat:=wL bg a.fields + a.body.length
structure yg (x : bH) : Prop where
 ad6 : bI x.status
 Vw : (bL GU) x.fields
 Vt : bS x.body
theorem Q6 (a b : bH) : decide (a = b) = (decide (a.status = b.status) && decide (a.fields = b.fields) && decide (a.body = b.body)):=by
 cases a; cases b; simp [Bool.and_assoc]
structure Rq where
 method : Int
 path : ag
 fields : List aF
 body : ag
 deriving DecidableEq
@[simp] def yF (m : Md) (a : Rq) : List X:=[.int .i64 a.method,.str ⟨(a.path).toArray⟩,.row m 2 ((a.fields).map aK),.str ⟨(a.body).toArray⟩]
@[simp] theorem aeu (m m' : Md) (l : List Rq) : X.bx m (l.map (yF m')) = l.map (yF m):=by induction l <;> simp_all [X.bx,X.cR,X.md]
@[simp] theorem acs (l : List Rq) : X.clean.aU (l.map (yF .own)) = true:=by induction l <;> simp_all [X.clean.aU,X.clean.bJ,X.clean]
@[simp] theorem acH (l : List Rq) : X.clean.aU (l.map (yF .sl)) = true:=by induction l <;> simp_all [X.clean.aU,X.clean.bJ,X.clean]
structure yf (x : Rq) : Prop where
 adW : bI x.method
 Vy : bS x.path
 Vw : (bL GU) x.fields
 Vt : bS x.body
structure Ob where
 path : ag
 names : List ag
 values : List ag
 resp : bH
 t : Int
 deriving DecidableEq
@[simp] def aX (m : Md) (a : Ob) : List X:=[.str ⟨(a.path).toArray⟩,.row m 1 ((a.names).map eS),.row m 1 ((a.values).map eS),.int .i64 a.resp.status,.row m 2 ((a.resp.fields).map aK),.str ⟨(a.resp.body).toArray⟩,.int .i64 a.t]
@[simp] theorem aes (m m' : Md) (l : List Ob) : X.bx m (l.map (aX m')) = l.map (aX m):=by induction l <;> simp_all [X.bx,X.cR,X.md]
@[simp] theorem acq (l : List Ob) : X.clean.aU (l.map (aX .own)) = true:=by induction l <;> simp_all [X.clean.aU,X.clean.bJ,X.clean]
@[simp] theorem acF (l : List Ob) : X.clean.aU (l.map (aX .sl)) = true:=by induction l <;> simp_all [X.clean.aU,X.clean.bJ,X.clean]
def ck (a : Ob) : Nat:=a.path.length + wL wS a.names + wL wS a.values + b9 a.resp
structure Cu (x : Ob) : Prop where
 Vy : bS x.path
 adY : (bL bS) x.names
 ad8 : (bL bS) x.values
 Em : yg x.resp
 En : bI x.t
theorem Q5 (a b : Ob) : decide (a = b) = (decide (a.path = b.path) && decide (a.names = b.names) && decide (a.values = b.values) && decide (a.resp = b.resp) && decide (a.t = b.t)):=by
 cases a; cases b; simp [Bool.and_assoc]
structure Kp where
 obj : Ob
 at_ : Int
 seq : Int
 deriving DecidableEq
@[simp] def aA (m : Md) (a : Kp) : List X:=[.str ⟨(a.obj.path).toArray⟩,.row m 1 ((a.obj.names).map eS),.row m 1 ((a.obj.values).map eS),.int .i64 a.obj.resp.status,.row m 2 ((a.obj.resp.fields).map aK),.str ⟨(a.obj.resp.body).toArray⟩,.int .i64 a.obj.t,.int .i64 a.at_,.int .i64 a.seq]
@[simp] theorem aer (m m' : Md) (l : List Kp) : X.bx m (l.map (aA m')) = l.map (aA m):=by induction l <;> simp_all [X.bx,X.cR,X.md]
@[simp] theorem acp (l : List Kp) : X.clean.aU (l.map (aA .own)) = true:=by induction l <;> simp_all [X.clean.aU,X.clean.bJ,X.clean]
@[simp] theorem acE (l : List Kp) : X.clean.aU (l.map (aA .sl)) = true:=by induction l <;> simp_all [X.clean.aU,X.clean.bJ,X.clean]
def ki (a : Kp) : Nat:=ck a.obj
structure OJ (x : Kp) : Prop where
 Vx : Cu x.obj
 Vr : bI x.at_
 VA : bI x.seq
theorem Q4 (a b : Kp) : decide (a = b) = (decide (a.obj = b.obj) && decide (a.at_ = b.at_) && decide (a.seq = b.seq)):=by
 cases a; cases b; simp [Bool.and_assoc]
def bX (a : Wr) : Nat:=a.text.length
structure qY (x : Wr) : Prop where
 Vr : bI x.at_
 VB : bS x.text
theorem Q8 (a b : Wr) : decide (a = b) = (decide (a.at_ = b.at_) && decide (a.text = b.text)):=by
 cases a; cases b; simp [Bool.and_assoc]
def cK (a : aV) : Nat:=wL wS a.cells + wL bX a.pending
structure tN (x : aV) : Prop where
 Vu : (bL bS) x.cells
 Vz : (bL qY) x.pending
theorem Q2 (a b : aV) : decide (a = b) = (decide (a.cells = b.cells) && decide (a.pending = b.pending)):=by
 cases a; cases b; simp [Bool.and_assoc]
structure Bn where
 kind : Int
 a : ag
 b : ag
 t : Int
 deriving DecidableEq
@[simp] def bw (a : Bn) : List X:=[.int .i64 a.kind,.str ⟨(a.a).toArray⟩,.str ⟨(a.b).toArray⟩,.int .i64 a.t]
@[simp] theorem aek (m : Md) (l : List Bn) : X.bx m (l.map bw) = l.map bw:=by induction l <;> simp_all [X.bx,X.cR,X.md]
@[simp] theorem aci (l : List Bn) : X.clean.aU (l.map bw) = true:=by induction l <;> simp_all [X.clean.aU,X.clean.bJ,X.clean]
def cj (a : Bn) : Nat:=a.a.length + a.b.length
structure GS (x : Bn) : Prop where
 J6 : bI x.kind
 Vq : bS x.a
 k_b : bS x.b
 En : bI x.t
theorem Q1 (a b : Bn) : decide (a = b) = (decide (a.kind = b.kind) && decide (a.a = b.a) && decide (a.b = b.b) && decide (a.t = b.t)):=by
 cases a; cases b; simp [Bool.and_assoc]
structure Sh where
 cY : aV
 cv : List Kp
 de : List Bn
 next : Int
 seq : Int
 deriving DecidableEq
@[simp] def bh (m : Md) (a : Sh) : List X:=[.row m 1 ((a.cY.cells).map eS),.row m 2 ((a.cY.pending).map eW),.row m 9 ((a.cv).map (aA m)),.row m 4 ((a.de).map bw),.int .i64 a.next,.int .i64 a.seq]
@[simp] theorem aey (m m' : Md) (l : List Sh) : X.bx m (l.map (bh m')) = l.map (bh m):=by induction l <;> simp_all [X.bx,X.cR,X.md]
@[simp] theorem acy (l : List Sh) : X.clean.aU (l.map (bh .own)) = true:=by induction l <;> simp_all [X.clean.aU,X.clean.bJ,X.clean]
@[simp] theorem acK (l : List Sh) : X.clean.aU (l.map (bh .sl)) = true:=by induction l <;> simp_all [X.clean.aU,X.clean.bJ,X.clean]
def oV (a : Sh) : Nat:=cK a.cY + wL ki a.cv + wL cj a.de
structure OM (x : Sh) : Prop where
 adS : tN x.cY
 ad1 : (bL OJ) x.cv
 Vs : (bL GS) x.de
 adZ : bI x.next
 VA : bI x.seq
theorem Q7 (a b : Sh) : decide (a = b) = (decide (a.cY = b.cY) && decide (a.cv = b.cv) && decide (a.de = b.de) && decide (a.next = b.next) && decide (a.seq = b.seq)):=by
 cases a; cases b; simp [Bool.and_assoc]
structure Fl where
 q : Rq
 who : List Int
 old : Ob
 Dr : Bool
 deriving DecidableEq
@[simp] def uc (m : Md) (a : Fl) : List X:=[.int .i64 a.q.method,.str ⟨(a.q.path).toArray⟩,.row m 2 ((a.q.fields).map aK),.str ⟨(a.q.body).toArray⟩,.row m 1 ((a.who).map eI),.str ⟨(a.old.path).toArray⟩,.row m 1 ((a.old.names).map eS),.row m 1 ((a.old.values).map eS),.int .i64 a.old.resp.status,.row m 2 ((a.old.resp.fields).map aK),.str ⟨(a.old.resp.body).toArray⟩,.int .i64 a.old.t,.bool a.Dr]
@[simp] theorem aen (m m' : Md) (l : List Fl) : X.bx m (l.map (uc m')) = l.map (uc m):=by induction l <;> simp_all [X.bx,X.cR,X.md]
@[simp] theorem acm (l : List Fl) : X.clean.aU (l.map (uc .own)) = true:=by induction l <;> simp_all [X.clean.aU,X.clean.bJ,X.clean]
@[simp] theorem acD (l : List Fl) : X.clean.aU (l.map (uc .sl)) = true:=by induction l <;> simp_all [X.clean.aU,X.clean.bJ,X.clean]
structure OI (x : Fl) : Prop where
 El : yf x.q
 ad9 : (bL bI) x.who
 ad2 : Cu x.old
 adU : bB x.Dr
structure Se where
 q : Rq
 resp : bH
 t : Int
 deriving DecidableEq
@[simp] def ue (m : Md) (a : Se) : List X:=[.int .i64 a.q.method,.str ⟨(a.q.path).toArray⟩,.row m 2 ((a.q.fields).map aK),.str ⟨(a.q.body).toArray⟩,.int .i64 a.resp.status,.row m 2 ((a.resp.fields).map aK),.str ⟨(a.resp.body).toArray⟩,.int .i64 a.t]
@[simp] theorem aex (m m' : Md) (l : List Se) : X.bx m (l.map (ue m')) = l.map (ue m):=by induction l <;> simp_all [X.bx,X.cR,X.md]
@[simp] theorem acw (l : List Se) : X.clean.aU (l.map (ue .own)) = true:=by induction l <;> simp_all [X.clean.aU,X.clean.bJ,X.clean]
@[simp] theorem acJ (l : List Se) : X.clean.aU (l.map (ue .sl)) = true:=by induction l <;> simp_all [X.clean.aU,X.clean.bJ,X.clean]
structure OL (x : Se) : Prop where
 El : yf x.q
 Em : yg x.resp
 En : bI x.t
structure Rp where
 client : Int
 q : Rq
 resp : bH
 kind : Int
 t : Int
 obj : Ob
 de : Int
 deriving DecidableEq
@[simp] def ud (m : Md) (a : Rp) : List X:=[.int .i64 a.client,.int .i64 a.q.method,.str ⟨(a.q.path).toArray⟩,.row m 2 ((a.q.fields).map aK),.str ⟨(a.q.body).toArray⟩,.int .i64 a.resp.status,.row m 2 ((a.resp.fields).map aK),.str ⟨(a.resp.body).toArray⟩,.int .i64 a.kind,.int .i64 a.t,.str ⟨(a.obj.path).toArray⟩,.row m 1 ((a.obj.names).map eS),.row m 1 ((a.obj.values).map eS),.int .i64 a.obj.resp.status,.row m 2 ((a.obj.resp.fields).map aK),.str ⟨(a.obj.resp.body).toArray⟩,.int .i64 a.obj.t,.int .i64 a.de]
@[simp] theorem aet (m m' : Md) (l : List Rp) : X.bx m (l.map (ud m')) = l.map (ud m):=by induction l <;> simp_all [X.bx,X.cR,X.md]
@[simp] theorem acr (l : List Rp) : X.clean.aU (l.map (ud .own)) = true:=by induction l <;> simp_all [X.clean.aU,X.clean.bJ,X.clean]
@[simp] theorem acG (l : List Rp) : X.clean.aU (l.map (ud .sl)) = true:=by induction l <;> simp_all [X.clean.aU,X.clean.bJ,X.clean]
structure OK (x : Rp) : Prop where
 Vv : bI x.client
 El : yf x.q
 Em : yg x.resp
 J6 : bI x.kind
 En : bI x.t
 Vx : Cu x.obj
 Vs : bI x.de
structure Ca where
 jE : Sh
 um : List Fl
 now : Int
 seen : List Se
 sent : List Rp
 deriving DecidableEq
@[simp] def yC (m : Md) (a : Ca) : List X:=[.row m 1 ((a.jE.cY.cells).map eS),.row m 2 ((a.jE.cY.pending).map eW),.row m 9 ((a.jE.cv).map (aA m)),.row m 4 ((a.jE.de).map bw),.int .i64 a.jE.next,.int .i64 a.jE.seq,.row m 13 ((a.um).map (uc m)),.int .i64 a.now,.row m 8 ((a.seen).map (ue m)),.row m 18 ((a.sent).map (ud m))]
@[simp] theorem ael (m m' : Md) (l : List Ca) : X.bx m (l.map (yC m')) = l.map (yC m):=by induction l <;> simp_all [X.bx,X.cR,X.md]
@[simp] theorem acj (l : List Ca) : X.clean.aU (l.map (yC .own)) = true:=by induction l <;> simp_all [X.clean.aU,X.clean.bJ,X.clean]
@[simp] theorem acB (l : List Ca) : X.clean.aU (l.map (yC .sl)) = true:=by induction l <;> simp_all [X.clean.aU,X.clean.bJ,X.clean]
structure bCa (x : Ca) : Prop where
 ad5 : OM x.jE
 adT : (bL OI) x.um
 ad0 : bI x.now
 ad3 : (bL OL) x.seen
 ad4 : (bL OK) x.sent
structure De where
 kind : Int
 client : Int
 q : Rq
 a : Int
 resp : bH
 nC : Bn
 keep : List Bool
 deriving DecidableEq
@[simp] def yE (m : Md) (a : De) : List X:=[.int .i64 a.kind,.int .i64 a.client,.int .i64 a.q.method,.str ⟨(a.q.path).toArray⟩,.row m 2 ((a.q.fields).map aK),.str ⟨(a.q.body).toArray⟩,.int .i64 a.a,.int .i64 a.resp.status,.row m 2 ((a.resp.fields).map aK),.str ⟨(a.resp.body).toArray⟩,.int .i64 a.nC.kind,.str ⟨(a.nC.a).toArray⟩,.str ⟨(a.nC.b).toArray⟩,.int .i64 a.nC.t,.row m 1 ((a.keep).map eB)]
@[simp] theorem aem (m m' : Md) (l : List De) : X.bx m (l.map (yE m')) = l.map (yE m):=by induction l <;> simp_all [X.bx,X.cR,X.md]
@[simp] theorem ack (l : List De) : X.clean.aU (l.map (yE .own)) = true:=by induction l <;> simp_all [X.clean.aU,X.clean.bJ,X.clean]
@[simp] theorem acC (l : List De) : X.clean.aU (l.map (yE .sl)) = true:=by induction l <;> simp_all [X.clean.aU,X.clean.bJ,X.clean]
structure bDe (x : De) : Prop where
 J6 : bI x.kind
 Vv : bI x.client
 El : yf x.q
 Vq : bI x.a
 Em : yg x.resp
 adR : GS x.nC
 adV : (bL bB) x.keep
theorem QY {ts : List Ty} {l : List X} (h : ko ([.int .i64,.str] ++ ts) l) : ∃ (a : Wr) (l' : List X),l = eW a ++ l'∧qY a∧ko ts l':=by
 simp only [List.cons_append,List.nil_append] at h
 obtain ⟨y1,r1,rfl,c1,h1⟩:=h.cons
 obtain ⟨a1,rfl,b1⟩:=QZ c1
 obtain ⟨y2,r2,rfl,c2,h2⟩:=h1.cons
 obtain ⟨a2,rfl,b2⟩:=H6 c2
 exact ⟨⟨a1,a2⟩,r2,by simp,⟨b1,b2⟩,h2⟩
def Yt : List Ty:=[.row [.str],.row [.int .i64,.str]]
theorem QX {ts : List Ty} {l : List X} (h : ko ([.row [.str],.row [.int .i64,.str]] ++ ts) l) : ∃ (a : aV) (l' : List X),l = bO .sl a ++ l'∧tN a∧ko ts l':=by
 simp only [List.cons_append,List.nil_append] at h
 obtain ⟨y1,r1,rfl,c1,h1⟩:=h.cons
 obtain ⟨a1,rfl,b1⟩:=HZ eS bS c1 fun r hr=>by
  obtain ⟨x,r',rfl,h1,h2⟩:=hr.cons
  obtain rfl:=h2.nil
  obtain ⟨s,rfl,hs⟩:=H6 h1
  exact ⟨s,rfl,hs⟩
 obtain ⟨y2,r2,rfl,c2,h2⟩:=h1.cons
 obtain ⟨a2,rfl,b2⟩:=HZ eW qY c2 fun r hr=>by
  obtain ⟨a,l',rfl,h1,h2⟩:=QY (ts:=[]) (by simpa using hr)
  obtain rfl:=h2.nil
  exact ⟨a,by simp,h1⟩
 exact ⟨⟨a1,a2⟩,r2,by simp,⟨b1,b2⟩,h2⟩
theorem acO {x : X} (h : nq (.agg Yt) x) : ∃ a,x = .agg (bO .sl a)∧tN a:=by
 obtain ⟨l,rfl,hl⟩:=QW h
 obtain ⟨a,l',rfl,h1,h2⟩:=QX (ts:=[]) (l:=l) (by rw [List.append_nil]; exact hl)
 obtain rfl:=h2.nil
 exact ⟨a,by simp,h1⟩
end M
namespace M
open Go
def cE {β : Type} (p : β→Bool) : Nat→List β→Option (Nat×β)
 | _,[]=>none
 | i,b :: l=>if p b = true then some (i,b) else cE p (i + 1) l
theorem rC {β : Type} {p : β→Bool} : ∀ {l : List β} {k i : Nat} {b : β},cE p k l = some (i,b)→k≤i∧l[i - k]? = some b∧p b = true
 | b' :: l,k,i,b,h=>by
  unfold cE at h
  split at h
  ·rename_i hp
   cases h
   exact ⟨Nat.le_refl _,by simp,hp⟩
  ·obtain ⟨h1,h2,h3⟩:=rC h
   refine ⟨by omega,?_,h3⟩
   rw [show i - k = (i - (k + 1)) + 1 by omega,List.getElem?_cons_succ]
   exact h2
theorem IL {β : Type} {p : β→Bool} : ∀ {l : List β} {k : Nat},cE p k l = none↔∀ b∈l,¬ p b = true
 | [],k=>by simp [cE]
 | b' :: l,k=>by
  unfold cE
  by_cases hp : p b' = true
  ·simp [hp]
  ·rw [if_neg hp,IL]
   simp [hp]
theorem wm {xt : Nat} {β : Type} {f : ah→bG} (l : List β) (st : Nat→ah) (p : β→Bool) (R : Nat→β→ah) (E : ah)
  (h : ∀ i b,l[i]? = some b→i < l.length→f (st i) = if p b = true then some (.ret,R i b) else some (.normal,st (i + 1)))
  (hend : f (st l.length) = some (.exit xt,E)) :
  aD f (st 0) = (cE p 0 l).elim (some (.exit xt,E)) fun x=>some (.ret,R x.1 x.2):=by
 suffices H : ∀ (r : List β) (i : Nat),l.drop i = r→i≤l.length→aD f (st i) = (cE p i r).elim (some (.exit xt,E)) fun x=>some (.ret,R x.1 x.2) from H l 0 rfl (Nat.zero_le _)
 intro r
 induction r with
 | nil =>
  intro i hr hi
  have : i = l.length:=by
   have:=congrArg List.length hr
   simp at this
   omega
  subst this
  rw [cM,hend]
  rfl
 | cons b r ih =>
  intro i hr hi
  have hb : l[i]? = some b:=by
   have:=congrArg (fun t : List β=>t[0]?) hr
   simpa using this
  have hlt : i < l.length:=(List.getElem?_eq_some_iff.1 hb).1
  have hd : l.drop (i + 1) = r:=by
   have:=congrArg List.tail hr
   simpa using this
  rw [cM,h i b hb hlt]
  unfold cE
  by_cases hp : p b = true
  ·simp [hp,lv]
  ·simp only [hp]
   exact ih (i + 1) hd hlt
theorem AM {xt : Nat} {β γ : Type} {f : ah→bG} (l : List β) (φ : β→List γ) (st : Nat→List γ→ah) (E : List γ→ah)
  (h : ∀ i b out,l[i]? = some b→i < l.length→out = (l.take i).flatMap φ→f (st i out) = some (.normal,st (i + 1) (out ++ φ b)))
  (hend : ∀ out,out = l.flatMap φ→f (st l.length out) = some (.exit xt,E out)) :
  aD f (st 0 []) = some (.exit xt,E (l.flatMap φ)):=by
 suffices H : ∀ (k i : Nat),i + k = l.length→aD f (st i ((l.take i).flatMap φ)) = some (.exit xt,E (l.flatMap φ)) from H l.length 0 (by omega)
 intro k
 induction k with
 | zero =>
  intro i hi
  obtain rfl : i = l.length:=by omega
  rw [List.take_length,cM,hend _ rfl]
  rfl
 | succ k ih =>
  intro i hi
  have hlt : i < l.length:=by omega
  rw [cM,h i l[i] _ (List.getElem?_eq_getElem hlt) hlt rfl]
  have : (l.take i).flatMap φ ++ φ l[i] = (l.take (i + 1)).flatMap φ:=by
   rw [List.take_succ_eq_append_getElem hlt,List.flatMap_append]
   simp
  simp only [this]
  exact ih (i + 1) (by omega)
theorem Dc {β γ : Type} (g : β→γ) (l : List β) : l.flatMap (fun b=>[g b]) = l.map g:=by induction l <;> simp_all
theorem IU {β γ : Type} (g : β→γ) (l : List β) (i : Nat) (h : i≤l.length) : ((l.take i).flatMap (fun b=>[g b])).length = i:=by rw [Dc]; simp; omega
end M
namespace M
open Go
def kM (b : UInt8) : UInt8:=if 65≤b.toNat∧b.toNat≤90 then b + 32 else b
def ct (s : ag) : ag:=s.map kM
def oT (b : UInt8) : Bool:=decide ((97≤b.toNat∧b.toNat≤122)∨(48≤b.toNat∧b.toNat≤57)∨b.toNat = 45)
def cW (s : ag) : Bool:=aR oT s && decide (1≤(s.length : Int)∧(s.length : Int)≤20)
def fY (lo : Nat) (b : UInt8) : Bool:=decide (lo≤b.toNat∧b.toNat≤126)
def ew (s : ag) : ag:=Lib.trimB s 32
def dV (s : ag) : Bool:=aR (fY 32) s && decide (1≤(s.length : Int)∧(s.length : Int)≤60) && decide (ew s = s)
def cZ (n : Int) : ag:=if 0≤n∧n≤1000000 then aL n.toNat else []
def fF (b : UInt8) : Bool:=decide (48≤b.toNat∧b.toNat≤57)
def jH (s : ag) : Nat:=s.foldl (fun x b=>10 * x + b.toNat - 48) 0
def aS (s : ag) : Option Nat:=if jH s≤1000000∧aL (jH s) = s then some (jH s) else none
def gv (s : ag) : Bool:=aR (fY 33) s && decide (1≤(s.length : Int)∧(s.length : Int)≤60) && decide (s[0]?.map (fun b : UInt8=>(b.toNat : Int)) = some 47)
theorem CZ {α : Type} (p : α→Bool) : ∀ (a b : List α),(∃ x∈a,p x = false)→(a ++ b).dropWhile p = a.dropWhile p ++ b
 | [],b,h=>by simp at h
 | x :: a,b,h=>by
  simp only [List.cons_append,List.dropWhile_cons]
  by_cases hx : p x = true
  ·simp only [hx,if_true]
   refine CZ p a b ?_
   obtain ⟨y,hy,hp⟩:=h
   rcases List.mem_cons.1 hy with rfl | hy
   ·rw [hx] at hp; cases hp
   ·exact ⟨y,hy,hp⟩
  ·simp [hx]
theorem CY {α : Type} (p : α→Bool) : ∀ (a : List α),(∀ x∈a,p x = true)→a.dropWhile p = []
 | [],_=>rfl
 | x :: a,h=>by
  rw [List.dropWhile_cons,if_pos (h x (List.mem_cons_self ..))]
  exact CY p a fun y hy=>h y (List.mem_cons_of_mem _ hy)
theorem C0 {α : Type} (p : α→Bool) : ∀ {a : List α} {x : α},x∈a→p x = false→x∈a.dropWhile p
 | y :: a,x,h,hp=>by
  rw [List.dropWhile_cons]
  by_cases hy : p y = true
  ·rw [if_pos hy]
   rcases List.mem_cons.1 h with rfl | h
   ·rw [hy] at hp; cases hp
   ·exact C0 p h hp
  ·rw [if_neg hy]; exact h
theorem Ih {α : Type} (p : α→Bool) (l : List α) : ∃ a,l = a ++ l.dropWhile p∧∀ x∈a,p x = true:=by
 refine ⟨l.takeWhile p,(List.takeWhile_append_dropWhile).symm,fun x hx=>?_⟩
 have:=List.all_takeWhile (l:=l) (p:=p)
 exact List.all_eq_true.1 this x hx
theorem aa7 (p : UInt8→Bool) (l : List UInt8) : (l.reverse.dropWhile p).reverse.dropWhile p = ((l.dropWhile p).reverse.dropWhile p).reverse:=by
 by_cases h : ∃ x∈l,p x = false
 ·obtain ⟨x,hx,hp⟩:=h
  obtain ⟨a,e1,h1⟩:=Ih p l
  have hm : x∈l.dropWhile p:=C0 p hx hp
  have e2 : l.reverse.dropWhile p = (l.dropWhile p).reverse.dropWhile p ++ a.reverse:=by
   conv=>lhs; rw [e1,List.reverse_append]
   exact CZ p _ _ ⟨x,by simpa using hm,hp⟩
  rw [e2,List.reverse_append,List.reverse_reverse]
  obtain ⟨b,e3,h3⟩:=Ih p (l.dropWhile p).reverse
  generalize hd : (l.dropWhile p).reverse.dropWhile p = d at e3 ⊢
  have Uy : ∃ y∈d,p y = false:=⟨x,by rw [← hd]; exact C0 p (by simpa using hm) hp,hp⟩
  have e4 : l.dropWhile p = d.reverse ++ b.reverse:=by
   have:=congrArg List.reverse e3
   simpa using this
  have e5 : (a ++ d.reverse).dropWhile p = d.reverse.dropWhile p:=by
   clear e1 e2 e3 hm
   induction a with
   | nil=>rfl
   | cons y a ih =>
    rw [List.cons_append,List.dropWhile_cons,if_pos (h1 y (List.mem_cons_self ..))]
    exact ih fun z hz=>h1 z (List.mem_cons_of_mem _ hz)
  rw [e5]
  have e6 : (l.dropWhile p).dropWhile p = l.dropWhile p:=by
   have : ∀ l : List UInt8,(l.dropWhile p).dropWhile p = l.dropWhile p:=by
    intro l
    induction l with
    | nil=>rfl
    | cons y l ih =>
     rw [List.dropWhile_cons]
     by_cases hy : p y = true
     ·rw [if_pos hy]; exact ih
     ·rw [if_neg hy,List.dropWhile_cons,if_neg hy]
   exact this l
  rw [e4] at e6
  rw [CZ p d.reverse b.reverse (by obtain ⟨y,hy,hp⟩:=Uy; exact ⟨y,by simpa using hy,hp⟩)] at e6
  exact List.append_cancel_right e6
 ·have h1 : ∀ x∈l,p x = true:=fun x hx=>by
   cases hp : p x with
   | true=>rfl
   | false=>exact absurd ⟨x,hx,hp⟩ h
  rw [CY p l h1,CY p l.reverse (fun x hx=>h1 x (by simpa using hx))]
  rfl
theorem aa6 (s : ag) : ew s = Lib.trimRightB (Lib.trimLeftB s 32) 32:=aa7 _ s
theorem L9 (s : ag) : (ew s).length≤s.length:=by
 unfold ew Lib.trimB Lib.trimLeftB Lib.trimRightB
 have h1:=(List.dropWhile_sublist (l:=(List.dropWhile (fun x=>x == 32) s.reverse).reverse) (fun x=>x == (32 : UInt8))).length_le
 have h2:=(List.dropWhile_sublist (l:=s.reverse) (fun x=>x == (32 : UInt8))).length_le
 simp only [List.length_reverse] at h1 h2
 omega
theorem T0 {α β : Type} (f : β→α→β) (l : List α) (a : α) (b : β) : (l ++ [a]).foldl f b = f (l.foldl f b) a:=by simp
theorem CV (n : Nat) : aL n≠[]:=by
 intro h
 have : (aL n).length = Lib.nDigits n:=Lib.decDigits_length n
 rw [h] at this
 have h2:=Lib.nDigits_pos n
 rw [← this] at h2
 simp at h2
theorem CX (n : Nat) (h : ¬ n < 10) : aL n = aL (n / 10) ++ [UInt8.ofNat (48 + n % 10)]:=by
 unfold aL
 rw [Lib.decDigits,dif_neg h]
theorem CW (n : Nat) (h : n < 10) : aL n = [UInt8.ofNat (48 + n)]:=by
 unfold aL
 rw [Lib.decDigits,dif_pos h]
theorem ru (k : Nat) (h : k < 10) : (UInt8.ofNat (48 + k)).toNat = 48 + k:=by
 rw [UInt8.toNat_ofNat']
 omega
theorem Mi : ∀ n : Nat,jH (aL n) = n:=by
 intro n
 induction n using Nat.strongRecOn with
 | ind n ih =>
  by_cases h : n < 10
  ·rw [CW n h]
   simp only [jH,List.foldl_cons,List.foldl_nil,ru n h]
   omega
  ·rw [CX n h]
   have:=ih (n / 10) (by omega)
   unfold jH at this ⊢
   rw [T0,this,ru _ (by omega)]
   omega
theorem CU : ∀ n : Nat,aR fF (aL n) = true:=by
 intro n
 induction n using Nat.strongRecOn with
 | ind n ih =>
  rw [iB]
  by_cases h : n < 10
  ·rw [CW n h]
   intro x hx
   rw [List.mem_singleton.1 hx]
   unfold fF
   rw [ru n h]
   simp; omega
  ·rw [CX n h]
   intro x hx
   rcases List.mem_append.1 hx with hx | hx
   ·exact iB.1 (ih _ (by omega)) x hx
   ·rw [List.mem_singleton.1 hx]
    unfold fF
    rw [ru _ (by omega)]
    simp; omega
theorem jZ {s : ag} {n : Nat} : aS s = some n↔n≤1000000∧aL n = s:=by
 unfold aS
 constructor
 ·intro h
  split at h
  ·rename_i hc
   cases h
   exact hc
  ·cases h
 ·rintro ⟨h1,rfl⟩
  rw [Mi,if_pos ⟨h1,rfl⟩]
theorem pM (n : Nat) (h : n≤1000000) : (aL n).length≤7:=nM 6 n (by omega)
theorem A4 (n : Nat) (h : n≤1000000) : cZ (n : Int) = aL n:=by
 unfold cZ
 rw [if_pos (by omega)]
 rfl
theorem KG (n : Nat) (h : n≤1000000) : aS (cZ n) = some n:=jZ.2 ⟨h,(A4 n h).symm⟩
theorem Ws (s : ag) (h : s.length≤7) : aS s = if s≠[]∧aR fF s = true∧cZ (jH s) = s then some (jH s) else none:=by
 cases hr : aS s with
 | some n =>
  obtain ⟨h1,rfl⟩:=jZ.1 hr
  rw [Mi,if_pos ⟨CV n,CU n,A4 n h1⟩]
 | none =>
  rw [if_neg]
  rintro ⟨h1,h2,h3⟩
  have : aS s = some (jH s):=by
   refine jZ.2 ?_
   unfold cZ at h3
   split at h3
   ·rename_i hc
    exact ⟨by omega,h3⟩
   ·exact absurd h3.symm h1
  rw [this] at hr
  cases hr
theorem Xu : ∀ (n acc : Nat) (l : List UInt8),acc * 10 ^ Lib.nDigits n + n < 10000000000→Lib.parseUint10 acc (aL n ++ l) = Lib.parseUint10 (acc * 10 ^ Lib.nDigits n + n) l:=by
 intro n
 induction n using Nat.strongRecOn with
 | ind n ih =>
  intro acc l hn
  by_cases h : n < 10
  ·rw [CW n h]
   simp only [List.cons_append,List.nil_append,Lib.parseUint10,ru n h]
   rw [Lib.nDigits_small h] at hn ⊢
   rw [if_pos (by omega),if_neg (by omega),if_neg (by omega)]
   congr 1
   omega
  ·rw [CX n h,List.append_assoc]
   have e:=Lib.nDigits_big h
   rw [e,Nat.pow_succ] at hn ⊢
   have hm : acc * (10 ^ Lib.nDigits (n / 10) * 10) = acc * 10 ^ Lib.nDigits (n / 10) * 10:=by rw [Nat.mul_assoc]
   rw [hm] at hn ⊢
   rw [ih (n / 10) (by omega) acc _ (by omega)]
   have hd:=ru (n % 10) (by omega)
   simp only [List.cons_append,List.nil_append,Lib.parseUint10,hd]
   rw [if_pos (by omega),if_neg (by omega),if_neg (by omega)]
   congr 1
   omega
theorem GR (n : Nat) (h : n≤1000000) : Lib.atoiAll (aL n) = .ok (n : Int):=by
 cases hd : aL n with
 | nil=>exact absurd hd (CV n)
 | cons c r =>
  have hc:=iB.1 (CU n) c (by rw [hd]; exact List.mem_cons_self ..)
  simp only [fF,decide_eq_true_eq] at hc
  rw [Lib.atoiAll_plain c r (by omega) (by omega),← hd]
  unfold Lib.parseMag
  rw [if_neg (CV n)]
  have:=Xu n 0 [] (by omega)
  rw [List.append_nil] at this
  rw [this]
  simp only [Lib.parseUint10,Lib.signless]
  rw [if_neg (by omega)]
  simp
theorem Wq (s : ag) (n : Int) (h : Lib.atoiAll s = .ok n) : (if 0≤n∧n≤1000000∧Lib.itoa n = s then some n.toNat else none) = aS s:=by
 split
 ·rename_i hc
  symm
  refine jZ.2 ⟨by omega,?_⟩
  rw [← Ek,← hc.2.2]
  congr 1
  omega
 ·rename_i hc
  cases hr : aS s with
  | none=>rfl
  | some m =>
   obtain ⟨h1,rfl⟩:=jZ.1 hr
   rw [GR m h1] at h
   obtain rfl : (m : Int) = n:=by injection h
   exact absurd ⟨by omega,by omega,Ek m⟩ hc
theorem Wt (s : ag) (h : ∀ n,Lib.atoiAll s≠.ok n) : aS s = none:=by
 cases hr : aS s with
 | none=>rfl
 | some m =>
  obtain ⟨h1,rfl⟩:=jZ.1 hr
  exact absurd (GR m h1) (h m)
theorem KF (s : ag) (h : 7 < s.length) : aS s = none:=by
 cases hr : aS s with
 | none=>rfl
 | some m =>
  obtain ⟨h1,rfl⟩:=jZ.1 hr
  have:=pM m h1
  omega
def aQ (c : UInt8) : ag→List ag
 | []=>[[]]
 | b :: s=>if b = c then [] :: aQ c s else match aQ c s with
  | w :: ws=>(b :: w) :: ws
  | []=>[[b]]
theorem s8 (c : UInt8) (s : ag) : aQ c s≠[]:=by
 cases s with
 | nil=>simp [aQ]
 | cons b s =>
  unfold aQ
  split
  ·simp
  ·split <;> simp
def jb (s : ag) : List ag:=((aQ 44 s).map ew).filter fun w=>decide (w≠[])
end M
namespace M
open Go Go.RowKit
def nu (w w' : World) (c : C) : Prop:=(∀ Z,c.ok w' Z)∧c.bare∧∀ b k,c.fp b k→w.heap.size≤b
theorem Oq [Bs] {P : Program} {f : FuncId} {xs : List X} {r : X}
  (h : ∀ w zl zb cs,cs.map C.er = xs→nk w zl zb cs→lg w→Calls P f (cs.map C.val).toArray w fun e w'=>∃ c : C,e = .returned c.val∧c.er = r∧Below w.heap.size w w'∧nu w w' c) :
  AC P f xs fun r' ps=>r' = r∧ps = xs.map fun _=>.dead:=by
 intro w zl zb cs e hA jS
 refine (h w zl zb cs e hA fun b hb=>(jS b hb).1).mono fun e' w' ⟨c,he,hc,hb,c1,c2,c3⟩=>?_
 have Dz : Ext (fun b k=>∃ x∈cs,x.fp b k) w w':=⟨hb.os,hb.tape,hb.output,hb.size,fun b hl=>.inl (hb.block b hl)⟩
 refine ⟨c,cs.map fun x=>.dead x.val,zl,⟨he,by rw [List.map_map]; rfl,Dz,⟨fun x hx'=>?_,fun x hx'=>?_,fun x hx' b k hf=>?_,fun b k hz=>Nat.lt_of_lt_of_le (hA.bN b k (hz.imp id fun h=>h.elim)) hb.size,?_⟩,fun x hx' b k hf=>?_,fun _ _ h=>h,fun _ _ h=>.inl h⟩,hc,?_⟩
 ·rcases List.mem_cons.1 hx' with rfl | hx'
  ·exact c1 _
  ·obtain ⟨y,_,rfl⟩:=List.mem_map.1 hx'; trivial
 ·rcases List.mem_cons.1 hx' with rfl | hx'
  ·exact c2
  ·obtain ⟨y,_,rfl⟩:=List.mem_map.1 hx'; trivial
 ·rcases List.mem_cons.1 hx' with rfl | hx'
  ·have h1:=c3 b k hf
   exact ⟨fun hz=>by have:=hA.bN b k (.inl hz); omega,fun hz=>hz⟩
  ·obtain ⟨y,_,rfl⟩:=List.mem_map.1 hx'; exact hf.elim
 ·refine List.pairwise_cons.2 ⟨fun x hx b k hf hf'=>?_,?_⟩
  ·obtain ⟨y,_,rfl⟩:=List.mem_map.1 hx; exact hf'
  ·refine List.pairwise_iff_getElem.2 fun i j hi hj _ b k hf=>?_
   obtain ⟨y,_,hy⟩:=List.mem_map.1 (List.getElem_mem hi)
   rw [← hy] at hf
   exact hf.elim
 ·rcases List.mem_cons.1 hx' with rfl | hx'
  ·exact .inr (c3 b k hf)
  ·obtain ⟨y,_,rfl⟩:=List.mem_map.1 hx'; exact hf.elim
 ·rw [← e]
  simp [List.map_map,Function.comp_def,C.er]
def dK (f0 : FuncId) (g : List X→Option X) : bE:=fun f xs=>if f = f0 then (match g xs with
 | some r=>some (r,xs.map fun _=>.dead)
 | none=>none) else none
theorem sF [Bs] {P : Program} {f0 : FuncId} {g : List X→Option X}
  (h : ∀ xs r,g xs = some r→∀ w zl zb cs,cs.map C.er = xs→nk w zl zb cs→lg w→Calls P f0 (cs.map C.val).toArray w fun e w'=>∃ c : C,e = .returned c.val∧c.er = r∧Below w.heap.size w w'∧nu w w' c) : (dK f0 g).Sound P:=fun f xs o e=>by
 unfold dK at e
 split at e
 ·rename_i hf
  subst hf
  split at e
  ·rename_i r hr
   cases e
   exact Oq (h xs r hr)
  ·cases e
 ·cases e
theorem ug {c : C} {s : ByteArray} (h : c.er = .str s) : c = .str s:=by cases c <;> simp [C.er] at h; rw [h]
theorem map_nil {l : List C} (h : l.map C.er = []) : l = []:=by simpa using h
theorem map_cons {l : List C} {x : X} {xs : List X} (h : l.map C.er = x :: xs) : ∃ c cs,l = c :: cs∧c.er = x∧cs.map C.er = xs:=by
 cases l with
 | nil=>simp at h
 | cons c cs=>simp at h; exact ⟨c,cs,rfl,h.1,h.2⟩
theorem yU {w w' : World} {s : ByteArray} (h : s.size≤9223372036854775807) : nu w w' (.str s):=⟨fun _=>h,trivial,fun _ _ h=>h.elim⟩
theorem T3 {w w' : World} {k : IntKind} {n : Int} : nu w w' (.int k n):=⟨fun _=>trivial,trivial,fun _ _ h=>h.elim⟩
theorem Dj {w w' : World} {b : Bool} : nu w w' (.bool b):=⟨fun _=>trivial,trivial,fun _ _ h=>h.elim⟩
def xN (l : List C) : C:=.ak l.length fun j=>l.getD j (.dead undef)
theorem Fb {α β : Type} (l : List α) (d : α) (g : α→β) : ((List.range l.length).map fun j=>g (l.getD j d)) = l.map g:=by
 apply List.ext_getElem
 ·simp
 ·intro i h1 h2
  simp at h1
  simp [h1]
theorem Mb (l : List C) : (xN l).er = .ak (l.map C.er):=by
 show X.ak _ = _
 rw [Fb l _ C.er]
theorem Mc (l : List C) : (xN l).val = .tuple (l.map C.val).toArray:=by
 show Value.tuple _ = _
 rw [Fb l _ C.val]
theorem I3 {w w' : World} {l : List C} (h : ∀ c∈l,nu w w' c∧c.ek∧∀ b k,¬ c.fp b k) : nu w w' (xN l):=by
 have hm : ∀ j,j < l.length→l.getD j (.dead undef)∈l:=fun j hj=>by simp [List.getD,hj]
 refine ⟨fun Z=>⟨fun j hj=>⟨(h _ (hm j hj)).2.1,(h _ (hm j hj)).1.1 Z⟩,fun j hj b k hf=>((h _ (hm j hj)).2.2 b k hf).elim⟩,fun j hj=>(h _ (hm j hj)).1.2.1,fun b k hf=>?_⟩
 obtain ⟨j,hj,hf⟩:=hf
 exact ((h _ (hm j hj)).2.2 b k hf).elim
theorem T4 {w w' : World} {g : Nat} {t : TypeId} {l : List ByteArray} (hg : w.heap.size≤g) (hb : w'.heap[g]? = some (.cells (l.map Value.string).toArray t (0,0))) (hs : ∀ s∈l,s.size≤9223372036854775807) :
  nu w w' (.row .own 1 (some (g,0,none)) l.length l.length fun i _=>.str (l.getD i ByteArray.empty)):=by
 have hm : ∀ j,j < l.length→l.getD j ByteArray.empty∈l:=fun j hj=>by simp [List.getD,hj]
 refine ⟨fun Z=>⟨Nat.le_refl _,fun i j hi hj=>⟨g,0,rfl,?_,fun h=>absurd rfl h⟩,fun i j hi hj=>⟨trivial,trivial,trivial,hs _ (hm i hi)⟩,fun _=>.inr ⟨g,0,_,t,(0,0),rfl,hb,?_,fun k _ _=>?_⟩,fun i j hi hj b k hf=>hf.elim⟩,trivial,fun b k hf=>?_⟩
 ·obtain rfl : j = 0:=by omega
  simp only [World.cell?,hb]
  simp [C.val,hi,Go.Value.oneCell']
 ·simp
 ·simp [World.frozen?,hb]
 ·obtain ⟨_,h | ⟨i,j,_,_,h⟩⟩:=hf
  ·obtain ⟨o,h⟩:=h
   have hgb:=congrArg Prod.fst (Option.some.inj h)
   have hgb : g = b:=hgb; exact hgb ▸ hg
  ·exact h.elim
theorem XU (l : List ByteArray) (g cap : Nat) : (C.row .own 1 (some (g,0,none)) l.length cap fun i _=>.str (l.getD i ByteArray.empty)).er = .row .own 1 (l.map fun s=>[.str s]):=by
 show X.row _ _ _ = _
 congr 1
 have:=Fb l ByteArray.empty fun s=>[X.str s]
 rw [← this]
 rfl
theorem Rf {c : C} {m : Md} {z : Nat} {xs : List (List X)} (h : c.er = .row m z xs) : ∃ A len cap e,c = .row m z A len cap e∧len = xs.length∧∀ i,i < len→xs[i]? = some ((List.range z).map fun j=>(e i j).er):=by
 cases c with
 | row m' z' A len cap e =>
  simp only [C.er,X.row.injEq] at h
  obtain ⟨rfl,rfl,h⟩:=h
  refine ⟨A,len,cap,e,rfl,by rw [← h]; simp,fun i hi=>?_⟩
  rw [← h]
  simp [hi]
 | _=>simp [C.er] at h
end M
namespace M
open Go
def qL (s : ag) : X:=.str ⟨s.toArray⟩
def Bf (l : List ag) : X:=.row .own 1 (l.map eS)
def B4 : List X→Option X
 | [.str s,.str c]=>if c.data.toList = [32]∧s.size≤9223372036854775807 then some (qL (ew s.data.toList)) else none
 | _=>none
def xF : List X→Option X
 | [.str s,.str c]=>if s.size < 4294967281∧1≤c.size then some (Bf (Lib.split s.data.toList c.data.toList)) else none
 | _=>none
def yx : List X→Option X
 | [.str s,.str c]=>if s.size < 4294967281 then some (.ak [qL (Lib.cut s.data.toList c.data.toList).1,qL (Lib.cut s.data.toList c.data.toList).2.1,.bool (Lib.cut s.data.toList c.data.toList).2.2]) else none
 | _=>none
def zc : List X→Option X
 | [.str s,.str c]=>some (.bool (Lib.hasPrefix s.data.toList c.data.toList))
 | _=>none
def A0 : List X→Option X
 | [.str s]=>if s.size≤9223372036854775807 then some (match aS s.data.toList with
  | some n=>.ak [.int .i64 n,.bool true]
  | none=>.ak [.int .i64 0,.bool false]) else none
 | _=>none
def nR (f : aF) : ag:=f.name ++ [58,32] ++ f.value ++ [13,10]
def gb (l : List aF) : ag:=l.flatMap nR
def nT : List (List X)→Option (List aF)
 | []=>some []
 | [.str a,.str b] :: r=>(nT r).map fun l=>⟨a.data.toList,b.data.toList⟩ :: l
 | _=>none
def yM : List X→Option X
 | [.row .af 2 rows]=>(match nT rows with
  | some l=>if (gb l).length≤140737488355328∧l.length≤140737488355328 then some (qL (gb l)) else none
  | none=>none)
 | _=>none
theorem IX : ∀ l : List aF,nT (l.map aK) = some l
 | []=>rfl
 | f :: l=>by simp [nT,IX l]
theorem count_nil (c : UInt8) : Lib.count [] [c] = 0:=by rw [Lib.count_one]; rfl
theorem Yl (c : UInt8) : ∀ s : ag,Lib.split s [c] = aQ c s:=by
 have key : ∀ (n : Nat) (s : ag),s.length≤n→Lib.splitK [c] 0 (Lib.count s [c]) s = aQ c s:=by
  intro n
  induction n with
  | zero =>
   intro s hs
   obtain rfl : s = []:=List.length_eq_zero_iff.1 (by omega)
   rw [count_nil]
   rfl
  | succ n ih =>
   intro s hs
   cases s with
   | nil=>rw [count_nil]; rfl
   | cons b s =>
    simp at hs
    have z8:=ih s (by omega)
    by_cases hb : b = c
    ·subst hb
     rw [Lib.count_cons_eq,Nat.add_comm]
     have hi : Lib.index (b :: s) [b] = 0:=Lib.index_first (i:=0) (Nat.zero_le _) (by simp [Lib.occAt]) (fun _ h=>absurd h (Nat.not_lt_zero _))
     simp only [Lib.splitK,hi,aQ]
     simp [z8]
    ·rw [Lib.count_cons_ne _ _ _ hb]
     have hnext : Lib.index (b :: s) [c] = if Lib.index s [c] = -1 then -1 else Lib.index s [c] + 1:=by
      have h:=Lib.index_drop (s:=b :: s) (sub:=[c]) (i:=1) (fun j hj=>by
       obtain rfl : j = 0:=by omega
       simp [Lib.occAt,List.isPrefixOf,Ne.symm hb]) (by simp)
      simp at h
      exact h
     rw [aQ,if_neg hb,← z8]
     cases hk : Lib.count s [c] with
     | zero=>simp [Lib.splitK]
     | succ k =>
      simp only [Lib.splitK,hnext]
      by_cases h1 : Lib.index s [c] = -1
      ·simp [h1]
      ·have h0 : 0≤Lib.index s [c]:=by
        have : -1≤Lib.index s [c]:=Lib.index_ge _ _
        omega
       have h2 : ¬ Lib.index s [c] + 1 = -1:=by omega
       have h3 : (Lib.index s [c] + 1).toNat = (Lib.index s [c]).toNat + 1:=by omega
       simp [h1,h2,h3]
 intro s
 exact key s.length s (Nat.le_refl _)
def bP (c : UInt8) : ag→Option (ag×ag)
 | []=>none
 | b :: s=>if b = c then some ([],s) else (bP c s).map fun p=>(b :: p.1,p.2)
theorem Vj (b c : UInt8) (s : ag) : Lib.index (b :: s) [c] = if b = c then 0 else if Lib.index s [c] = -1 then -1 else Lib.index s [c] + 1:=by
 by_cases hb : b = c
 ·subst hb
  rw [if_pos rfl]
  exact Lib.index_first (i:=0) (Nat.zero_le _) (by simp [Lib.occAt]) (fun _ h=>absurd h (Nat.not_lt_zero _))
 ·rw [if_neg hb]
  have h:=Lib.index_drop (s:=b :: s) (sub:=[c]) (i:=1) (fun j hj=>by
   obtain rfl : j = 0:=by omega
   simp [Lib.occAt,List.isPrefixOf,Ne.symm hb]) (by simp)
  simp at h
  exact h
theorem yz (c : UInt8) : ∀ s : ag,Lib.cut s [c] = match bP c s with
  | some p=>(p.1,p.2,true)
  | none=>(s,[],false)
 | []=>rfl
 | b :: s=>by
  have ih:=yz c s
  have h0 : -1≤Lib.index s [c]:=Lib.index_ge _ _
  unfold Lib.cut at ih ⊢
  rw [Vj,bP]
  by_cases hb : b = c
  ·simp [hb]
  ·simp only [hb,if_false]
   by_cases h1 : Lib.index s [c] = -1
   ·rw [h1] at ih
    simp only [h1]
    cases hc : bP c s with
    | none=>simp
    | some p=>rw [hc] at ih; simp at ih
   ·have h2 : 0≤Lib.index s [c]:=by omega
    rw [if_pos h2] at ih
    rw [if_neg h1,if_pos (by omega)]
    have h3 : (Lib.index s [c] + 1).toNat = (Lib.index s [c]).toNat + 1:=by omega
    cases hc : bP c s with
    | none=>rw [hc] at ih; simp at ih
    | some p =>
     rw [hc] at ih
     simp at ih
     simp [h3,← ih.1,← ih.2]
end M
namespace M
open Go
def cX {β : Type} (p : β→Bool) (l : List β) : Nat:=(l.takeWhile fun b=>!p b).length
theorem Ks {β : Type} {f : ah→bG} (l : List β) (st : Nat→ah) (p : β→Bool) (E : Nat→ah) {x : Nat}
  (h : ∀ i b,l[i]? = some b→i < l.length→f (st i) = if p b = true then some (.exit x,E i) else some (.normal,st (i + 1)))
  (hend : f (st l.length) = some (.exit x,E l.length)) : aD f (st 0) = some (.exit x,E (cX p l)):=by
 suffices H : ∀ (r : List β) (i : Nat),l.drop i = r→i≤l.length→aD f (st i) = some (.exit x,E (i + cX p r)) by
  have:=H l 0 rfl (Nat.zero_le _)
  rwa [Nat.zero_add] at this
 intro r
 induction r with
 | nil =>
  intro i hr hi
  have : i = l.length:=by
   have:=congrArg List.length hr
   simp at this
   omega
  subst this
  rw [cM,hend]
  rfl
 | cons b r ih =>
  intro i hr hi
  have hb : l[i]? = some b:=by
   have:=congrArg (fun t : List β=>t[0]?) hr
   simpa using this
  have hlt : i < l.length:=(List.getElem?_eq_some_iff.1 hb).1
  have hd : l.drop (i + 1) = r:=by
   have:=congrArg List.tail hr
   simpa using this
  rw [cM,h i b hb hlt]
  unfold cX
  by_cases hp : p b = true
  ·simp [hp,dG]
  ·have:=ih (i + 1) hd hlt
   simp only [hp]
   have e : i + 1 + cX p r = i + (cX p r + 1):=by omega
   rw [e] at this
   simp [hp,dG,this,cX]
theorem B8 {β : Type} (p : β→Bool) (l : List β) : cX p l≤l.length:=by
 unfold cX
 exact (List.takeWhile_sublist _).length_le
theorem Mh {β : Type} (p : β→Bool) : ∀ (l : List β) (j : Nat) (b : β),j < cX p l→l[j]? = some b→p b = false
 | [],j,b,h,_=>by simp [cX] at h
 | a :: l,j,b,h,hb=>by
  unfold cX at h
  rw [List.takeWhile_cons] at h
  by_cases hp : p a = true
  ·simp [hp] at h
  ·simp only [hp,Bool.not_false,if_true,List.length_cons] at h
   cases j with
   | zero=>simp at hb; subst hb; simpa using hp
   | succ j=>exact Mh p l j b (by unfold cX; omega) (by simpa using hb)
theorem Mg {β : Type} (p : β→Bool) : ∀ (l : List β) (b : β),l[cX p l]? = some b→p b = true
 | [],b,h=>by simp at h
 | a :: l,b,h=>by
  unfold cX at h
  rw [List.takeWhile_cons] at h
  by_cases hp : p a = true
  ·simp [hp] at h; subst h; exact hp
  ·simp only [hp,Bool.not_false,if_true,List.length_cons,List.getElem?_cons_succ] at h
   exact Mg p l b h
def dZ (c : UInt8) (f : ag→List ag) (s : ag) (i : Nat) (g : List ag×Nat) (b : Option UInt8) : List ag×Nat:=match b with
 | some b=>if b = c then (g.1 ++ f ((s.take i).drop g.2),i + 1) else g
 | none=>(g.1 ++ f ((s.take i).drop g.2),i + 1)
theorem xE (c : UInt8) : ∀ (cur rest : ag),(∀ b∈cur,b≠c)→aQ c (cur ++ rest) = match aQ c rest with
  | w :: ws=>(cur ++ w) :: ws
  | []=>[cur]
 | [],rest,_=>by
  cases h : aQ c rest with
  | nil=>exact absurd h (s8 c rest)
  | cons w ws=>simpa using h
 | a :: cur,rest,h=>by
  rw [List.cons_append,aQ,if_neg (h a (List.mem_cons_self ..)),xE c cur rest fun b hb=>h b (List.mem_cons_of_mem _ hb)]
  cases aQ c rest <;> simp
theorem FW (c : UInt8) (cur : ag) (h : ∀ b∈cur,b≠c) : aQ c cur = [cur]:=by
 have:=xE c cur [] h
 simpa [aQ] using this
theorem F3 : ∀ (p cur rest : ag),((p ++ (cur ++ rest)).take (p.length + cur.length)).drop p.length = cur
 | [],cur,rest=>by simp
 | a :: p,cur,rest=>by
  have:=F3 p cur rest
  simp only [List.length_cons,List.cons_append,show p.length + 1 + cur.length = p.length + cur.length + 1 by omega,List.take_succ_cons,List.drop_succ_cons]
  exact this
theorem I0 (c : UInt8) (f : ag→List ag) (s : ag) : foldI (dZ c f s) 0 (s.map some ++ [none]) ([],0) = ((aQ c s).flatMap f,s.length + 1):=by
 suffices H : ∀ (rest p cur : ag) (out : List ag),s = p ++ cur ++ rest→(∀ b∈cur,b≠c)→foldI (dZ c f s) (p.length + cur.length) (rest.map some ++ [none]) (out,p.length) = (out ++ (aQ c (cur ++ rest)).flatMap f,s.length + 1) by
  have:=H s [] [] [] rfl (by simp)
  simpa using this
 intro rest
 induction rest with
 | nil =>
  intro p cur out hs hc
  simp only [List.append_nil] at hs ⊢
  rw [FW c cur hc]
  subst hs
  have e1:=F3 p cur []
  rw [List.append_nil] at e1
  simp [foldI,dZ,e1]
 | cons b rest ih =>
  intro p cur out hs hc
  simp only [List.map_cons,List.cons_append,foldI]
  by_cases hb : b = c
  ·subst hb
   have e1 : (s.take (p.length + cur.length)).drop p.length = cur:=by subst hs; have:=F3 p cur (b :: rest); rwa [← List.append_assoc] at this
   have:=ih (p ++ cur ++ [b]) [] (out ++ f cur) (by simp [hs]) (by simp)
   simp only [List.length_append,List.length_cons,List.length_nil,List.nil_append] at this
   simp only [dZ,if_true,e1]
   rw [show p.length + cur.length + 1 = p.length + cur.length + (0 + 1) + 0 by omega,this,xE b cur (b :: rest) hc]
   simp [aQ]
  ·have:=ih p (cur ++ [b]) out (by simp [hs]) (by
    intro x hx
    rcases List.mem_append.1 hx with hx | hx
    ·exact hc x hx
    ·rw [List.mem_singleton.1 hx]; exact hb)
   simp only [List.length_append,List.length_cons,List.length_nil] at this
   simp only [dZ,hb,if_false]
   rw [show p.length + cur.length + 1 = p.length + (cur.length + (0 + 1)) by omega,this]
   simp
theorem Ms (s : ag) : jb s = (aQ 44 s).flatMap fun w=>if ew w≠[] then [ew w] else []:=by
 unfold jb
 induction aQ 44 s with
 | nil=>rfl
 | cons w l ih =>
  simp only [List.map_cons,List.filter_cons,List.flatMap_cons,← ih]
  by_cases h : ew w = [] <;> simp [h]
@[simp] theorem adh (l : List UInt8) : l.map (fun b : UInt8=>[X.int IntKind.u8 (b.toNat : Int)]) = l.map eU:=rfl
@[simp] theorem afl (l : List UInt8) : oU (l.map eU) = some l:=Mf l
theorem F1 (c : UInt8) : ∀ s : ag,((aQ c s).map List.length).sum + (aQ c s).length = s.length + 1
 | []=>rfl
 | b :: s=>by
  have:=F1 c s
  unfold aQ
  split
  ·simp; omega
  ·cases h : aQ c s with
   | nil=>exact absurd h (s8 c s)
   | cons w ws=>rw [h] at this; simp at this ⊢; omega
theorem LM (c : UInt8) (s : ag) : (aQ c s).length≤s.length + 1:=by have:=F1 c s; omega
theorem lX (c : UInt8) (s : ag) : ∀ w∈aQ c s,w.length≤s.length:=by
 intro w hw
 have h:=F1 c s
 have h1 : w.length + 1≤((aQ c s).map List.length).sum + (aQ c s).length:=by
  clear h
  revert hw
  generalize aQ c s = l
  intro hw
  induction l with
  | nil=>cases hw
  | cons x l ih =>
   rcases List.mem_cons.1 hw with rfl | hw
   ·simp; omega
   ·have:=ih hw; simp; omega
 omega
theorem Kt (b : UInt8) (h : 65≤b.toNat∧b.toNat≤90) : (b + 32).toNat = b.toNat + 32:=by
 rw [UInt8.toNat_add]
 have : (32 : UInt8).toNat = 32:=rfl
 omega
theorem Mu {n : Int} (h1 : 0≤n) (h2 : n < 256) : IntKind.u8.wrap n = n:=Cb h1 h2
end M
namespace M
theorem IQ {β γ : Type} (φ : β→List γ) (hφ : ∀ b,(φ b).length≤1) (l : List β) (i : Nat) : ((l.take i).flatMap φ).length≤i:=by
 induction l generalizing i with
 | nil=>simp
 | cons b l ih =>
  cases i with
  | zero=>simp
  | succ i =>
   have:=ih i
   have:=hφ b
   simp only [List.take_succ_cons,List.flatMap_cons,List.length_append]
   omega
end M
namespace M
@[simp] theorem ace (i : Nat) : ((i : Int) < 0) = False:=by simp
end M
namespace M
def gP {α : Type} (f : α→α) (l : List α) (i : Nat) : List α:=(l.take i).map f ++ l.drop i
@[simp] theorem aed {α : Type} (f : α→α) (l : List α) (i : Nat) : (gP f l i).length = l.length:=by simp [gP]; omega
theorem V0 {α : Type} (f : α→α) (l : List α) : gP f l 0 = l:=by simp [gP]
theorem VW {α : Type} (f : α→α) (l : List α) : gP f l l.length = l.map f:=by simp [gP]
theorem VX {α : Type} (f : α→α) (l : List α) (i : Nat) (h : i < l.length) : (gP f l i)[i]? = some l[i]:=by
 unfold gP
 rw [List.getElem?_append_right (by simp; omega)]
 have : i - ((l.take i).map f).length = 0:=by simp; omega
 rw [this]
 simp [h]
theorem VY {α : Type} (f : α→α) (l : List α) (i : Nat) (h : i < l.length) (h' : i < (gP f l i).length) : (gP f l i)[i] = l[i]:=by
 have:=VX f l i h
 rw [List.getElem?_eq_getElem h'] at this
 exact Option.some.inj this
theorem VZ {α : Type} (f : α→α) (l : List α) (i : Nat) (h : i < l.length) : (gP f l i).set i (f l[i]) = gP f l (i + 1):=by
 unfold gP
 rw [List.set_append_right _ _ (by simp; omega),List.drop_eq_getElem_cons h]
 have : i - ((l.take i).map f).length = 0:=by simp; omega
 rw [this,List.take_succ_eq_append_getElem h]
 simp only [List.set_cons_zero,List.map_append,List.map_cons,List.map_nil,List.append_assoc,List.cons_append,List.nil_append]
end M
namespace M
@[simp] theorem V3 (m : Md) : ∀ (i : Nat) (l : List (List X)),X.bx m (l.take i) = (X.bx m l).take i
 | 0,l=>by simp [X.bx]
 | i + 1,[]=>by simp [X.bx]
 | i + 1,a :: l=>by simp [X.bx,V3 m i l]
@[simp] theorem V2 (m : Md) : ∀ (i : Nat) (l : List (List X)),X.bx m (l.drop i) = (X.bx m l).drop i
 | 0,l=>by simp
 | i + 1,[]=>by simp [X.bx]
 | i + 1,a :: l=>by simp [X.bx,V2 m i l]
end M
namespace M
open Go
abbrev cF : ag:=[99,111,110,116,101,110,116,45,108,101,110,103,116,104]
abbrev gS : ag:=[118,97,114,121]
theorem tq {l : List ag} {a : ag} (h : a∈l) : a.length≤wL wS l:=jI (w:=wS) h
theorem B9 {l : List aF} {a : aF} (h : a∈l) : a.name.length + a.value.length≤wL bg l:=jI (w:=bg) h
def gX (fs : List aF) (n : ag) : Option (Nat×aF):=cE (fun f=>decide (f.name = n)) 0 fs
def iC (o : Option (Nat×aF)) : Int:=o.elim (-1) fun x=>(x.1 : Int)
def dA (fs : List aF) (n : ag) : Option ag:=(gX fs n).map fun x=>x.2.value
theorem OH {fs : List aF} {n : ag} {i : Nat} {f : aF} (h : gX fs n = some (i,f)) : ∃ hi : i < fs.length,fs[i] = f∧f.name = n:=by
 obtain ⟨_,h2,h3⟩:=rC h
 simp at h2 h3
 obtain ⟨hi,e⟩:=List.getElem?_eq_some_iff.1 h2
 exact ⟨hi,e,h3⟩
theorem yY (fs : List aF) (n : ag) : ((dA fs n).getD []).length≤wL bg fs:=by
 unfold dA
 cases h : gX fs n with
 | none=>simp
 | some x =>
  obtain ⟨i,f⟩:=x
  obtain ⟨hi,rfl,_⟩:=OH h
  have:=B9 (List.getElem_mem hi)
  simp
  omega
def gF (fs : List aF) (x : aF×Nat) : Bool:=cW x.1.name && dV x.1.value && decide (iC (gX fs x.1.name) = x.2) && !decide (x.1.name = cF)
def jd (fs : List aF) : Bool:=aR (gF fs) fs.zipIdx && decide ((fs.length : Int)≤8)
def dS (r : bH) : Bool:=decide (100≤r.status∧r.status≤599) && jd r.fields && decide ((r.body.length : Int)≤120)
def eR (fs : List aF) : List ag:=(jb ((dA fs gS).getD [])).map ct
def sE (l : List ag) : Bool:=aR cW l && decide ((l.length : Int)≤4)
def dD (o : Ob) : Bool:=dS o.resp && gv o.path && decide (0≤o.t∧o.t≤1000000) && sE o.names && decide (o.names = eR o.resp.fields) && decide (o.values.length = o.names.length) && aR dV o.values
def dy (b : Bn) : Bool:=decide (0≤b.t∧b.t≤1000000) && (if b.kind = 1∨b.kind = 2 then gv b.a && decide (b.b = []) else if b.kind = 3 then cW b.a && dV b.b else false)
def jU (b : Bn) (o : Ob) : Bool:=decide (o.t≤b.t) && dy b && dD o && (if b.kind = 1 then decide (o.path = b.a) else if b.kind = 2 then b.a.isPrefixOf o.path else decide (dA o.resp.fields b.a = some b.b))
def mA (l : List Bn) (o : Ob) : Bool:=l.any fun b=>jU b o
def oG (w : Wr) : Bool:=decide (0≤w.at_∧w.at_≤19)
def dF (d : aV) : Bool:=aR oG d.pending && decide ((d.cells.length : Int) = 20) && decide ((d.pending.length : Int)≤16)
def XB (l : List Kp) (i : Nat) : Int:=if i = 0 then 0 else (l[i - 1]?.map fun k=>k.seq).getD 0
def VG (S : Int) (l : List Kp) (x : Kp×Nat) : Bool:=dD x.1.obj && decide (5≤x.1.at_∧x.1.at_≤19) && aR (fun y=>decide ¬ y.at_ = x.1.at_) (l.take x.2) && decide (XB l x.2 < x.1.seq) && decide (x.1.seq < S)
def WC (S : Int) (l : List Kp) : Bool:=aR (VG S l) l.zipIdx
theorem IJ {β : Type} (p : β→Bool) : ∀ (l : List β) (k : Nat),(cE p k l).isSome = !aR (fun b=>!p b) l
 | [],_=>rfl
 | b :: l,k=>by
  unfold cE aR
  by_cases h : p b = true
  ·simp [h]
  ·have:=IJ p l (k + 1)
   unfold aR at this
   simp [h,this]
theorem Mq {l : List Bn} {b : Bn} (h : b∈l) : cj b≤wL cj l:=jI (w:=cj) h
end M
namespace M
open Go
def cN (_ : Int) (k : Int) : Int:=k
def bM (_ : ag) (k : Int) : ag:=ql k
def jY (_ : Bool) (k : Int) : Bool:=decide (k.tmod 3 = 0)
def aB {α : Type} (_ : α) : Nat:=1
def aP {α : Type} (mk : α→Int→α) (n : α→Nat) : List α→Int→List α
 | [],_=>[]
 | a :: l,k=>mk a k :: aP mk n l (k + (n a : Nat))
def nL {α : Type} (n : α→Nat) (l : List α) : Nat:=(l.map n).sum
@[simp] theorem V8 {α : Type} (mk : α→Int→α) (n : α→Nat) : ∀ (l : List α) (k : Int),(aP mk n l k).length = l.length
 | [],_=>rfl
 | a :: l,k=>by simp [aP,V8 mk n l]
theorem kQ {α : Type} (n : α→Nat) (l : List α) (i : Nat) (h : i < l.length) : nL n (l.take (i + 1)) = nL n (l.take i) + n l[i]:=by
 unfold nL
 rw [List.take_succ_eq_append_getElem h,List.map_append,List.sum_append]
 simp
theorem kP {α : Type} (mk : α→Int→α) (n : α→Nat) : ∀ (l : List α) (k : Int) (i : Nat) (h : i < l.length) (h' : i < (aP mk n l k).length),(aP mk n l k)[i] = mk l[i] (k + (nL n (l.take i) : Nat))
 | a :: l,k,0,_,_=>by simp [aP,nL]
 | a :: l,k,i + 1,h,h'=>by
  have h1:=kP mk n l (k + (n a : Nat)) i (by simpa using h) (by simp at h ⊢; omega)
  simp only [aP,List.getElem_cons_succ,List.take_succ_cons,h1]
  congr 1
  simp [nL]; omega
theorem lI {α : Type} (n : α→Nat) (l : List α) (i : Nat) (h : i < l.length) : nL n (l.take i) + n l[i]≤nL n l:=by
 rw [← kQ n l i h]
 unfold nL
 conv=>rhs; rw [← List.take_append_drop (i + 1) l]
 rw [List.map_append,List.sum_append]
 omega
theorem Wi {α : Type} (l : List α) : nL (aB : α→Nat) l = l.length:=by
 unfold nL aB
 induction l with
 | nil=>rfl
 | cons a l ih=>simp only [List.map_cons,List.sum_cons,List.length_cons,ih]; omega
theorem lH {α : Type} (n : α→Nat) (h : ∀ a,1≤n a) (l : List α) : l.length≤nL n l:=by
 unfold nL
 induction l with
 | nil=>simp
 | cons a l ih=>have:=h a; simp; omega
theorem AX {α : Type} (n w : α→Nat) (h : ∀ a,n a≤20 + 20 * w a) (l : List α) : nL n l≤20 * wL w l:=by
 unfold nL wL
 induction l with
 | nil=>simp
 | cons a l ih=>have:=h a; simp at ih ⊢; omega
theorem E2 {α : Type} (w : α→Nat) (l : List α) : nL (aB : α→Nat) l≤20 * wL w l:=by
 rw [Wi]; unfold wL; omega
def ei (a : aF) (k : Int) : aF:=⟨bM a.name (k),bM a.value (k + 1)⟩
def aC (a : aF) : Nat:=2
theorem HT (a : aF) : 1≤aC a:=by unfold aC; omega
theorem QN (a : aF) : aC a≤20 + 20 * bg a:=by
 unfold aC
 skip
 simp only [bg]
 omega
def jw (a : Wr) (k : Int) : Wr:=⟨cN a.at_ (k),bM a.text (k + 1)⟩
def bZ (a : Wr) : Nat:=2
theorem HW (a : Wr) : 1≤bZ a:=by unfold bZ; omega
theorem QT (a : Wr) : bZ a≤20 + 20 * bX a:=by
 unfold bZ
 skip
 simp only [bX]
 omega
def jv (a : Kp) (k : Int) : Kp:=⟨⟨bM a.obj.path (k),aP bM aB a.obj.names (k + 1),aP bM aB a.obj.values (k + 1 + (nL aB a.obj.names : Nat)),⟨cN a.obj.resp.status (k + 1 + (nL aB a.obj.names : Nat) + (nL aB a.obj.values : Nat)),aP ei aC a.obj.resp.fields (k + 1 + (nL aB a.obj.names : Nat) + (nL aB a.obj.values : Nat) + 1),bM a.obj.resp.body (k + 1 + (nL aB a.obj.names : Nat) + (nL aB a.obj.values : Nat) + 1 + (nL aC a.obj.resp.fields : Nat))⟩,cN a.obj.t (k + 1 + (nL aB a.obj.names : Nat) + (nL aB a.obj.values : Nat) + 1 + (nL aC a.obj.resp.fields : Nat) + 1)⟩,cN a.at_ (k + 1 + (nL aB a.obj.names : Nat) + (nL aB a.obj.values : Nat) + 1 + (nL aC a.obj.resp.fields : Nat) + 1 + 1),cN a.seq (k + 1 + (nL aB a.obj.names : Nat) + (nL aB a.obj.values : Nat) + 1 + (nL aC a.obj.resp.fields : Nat) + 1 + 1 + 1)⟩
def bT (a : Kp) : Nat:=6 + nL aB a.obj.names + nL aB a.obj.values + nL aC a.obj.resp.fields
theorem HU (a : Kp) : 1≤bT a:=by unfold bT; omega
theorem QO (a : Kp) : bT a≤20 + 20 * ki a:=by
 unfold bT
 have:=E2 wS a.obj.names
 have:=E2 wS a.obj.values
 have:=AX aC bg QN a.obj.resp.fields
 simp only [ki,ck,b9]
 omega
def ju (a : Bn) (k : Int) : Bn:=⟨cN a.kind (k),bM a.a (k + 1),bM a.b (k + 1 + 1),cN a.t (k + 1 + 1 + 1)⟩
def bY (a : Bn) : Nat:=4
theorem HS (a : Bn) : 1≤bY a:=by unfold bY; omega
theorem QM (a : Bn) : bY a≤20 + 20 * cj a:=by
 unfold bY
 skip
 simp only [cj]
 omega
def V9 (a : Fl) (k : Int) : Fl:=⟨⟨cN a.q.method (k),bM a.q.path (k + 1),aP ei aC a.q.fields (k + 1 + 1),bM a.q.body (k + 1 + 1 + (nL aC a.q.fields : Nat))⟩,aP cN aB a.who (k + 1 + 1 + (nL aC a.q.fields : Nat) + 1),⟨bM a.old.path (k + 1 + 1 + (nL aC a.q.fields : Nat) + 1 + (nL aB a.who : Nat)),aP bM aB a.old.names (k + 1 + 1 + (nL aC a.q.fields : Nat) + 1 + (nL aB a.who : Nat) + 1),aP bM aB a.old.values (k + 1 + 1 + (nL aC a.q.fields : Nat) + 1 + (nL aB a.who : Nat) + 1 + (nL aB a.old.names : Nat)),⟨cN a.old.resp.status (k + 1 + 1 + (nL aC a.q.fields : Nat) + 1 + (nL aB a.who : Nat) + 1 + (nL aB a.old.names : Nat) + (nL aB a.old.values : Nat)),aP ei aC a.old.resp.fields (k + 1 + 1 + (nL aC a.q.fields : Nat) + 1 + (nL aB a.who : Nat) + 1 + (nL aB a.old.names : Nat) + (nL aB a.old.values : Nat) + 1),bM a.old.resp.body (k + 1 + 1 + (nL aC a.q.fields : Nat) + 1 + (nL aB a.who : Nat) + 1 + (nL aB a.old.names : Nat) + (nL aB a.old.values : Nat) + 1 + (nL aC a.old.resp.fields : Nat))⟩,cN a.old.t (k + 1 + 1 + (nL aC a.q.fields : Nat) + 1 + (nL aB a.who : Nat) + 1 + (nL aB a.old.names : Nat) + (nL aB a.old.values : Nat) + 1 + (nL aC a.old.resp.fields : Nat) + 1)⟩,jY a.Dr (k + 1 + 1 + (nL aC a.q.fields : Nat) + 1 + (nL aB a.who : Nat) + 1 + (nL aB a.old.names : Nat) + (nL aB a.old.values : Nat) + 1 + (nL aC a.old.resp.fields : Nat) + 1 + 1)⟩
def CR (a : Fl) : Nat:=8 + nL aC a.q.fields + nL aB a.who + nL aB a.old.names + nL aB a.old.values + nL aC a.old.resp.fields
def Wb (a : Se) (k : Int) : Se:=⟨⟨cN a.q.method (k),bM a.q.path (k + 1),aP ei aC a.q.fields (k + 1 + 1),bM a.q.body (k + 1 + 1 + (nL aC a.q.fields : Nat))⟩,⟨cN a.resp.status (k + 1 + 1 + (nL aC a.q.fields : Nat) + 1),aP ei aC a.resp.fields (k + 1 + 1 + (nL aC a.q.fields : Nat) + 1 + 1),bM a.resp.body (k + 1 + 1 + (nL aC a.q.fields : Nat) + 1 + 1 + (nL aC a.resp.fields : Nat))⟩,cN a.t (k + 1 + 1 + (nL aC a.q.fields : Nat) + 1 + 1 + (nL aC a.resp.fields : Nat) + 1)⟩
def HV (a : Se) : Nat:=6 + nL aC a.q.fields + nL aC a.resp.fields
def Wa (a : Rp) (k : Int) : Rp:=⟨cN a.client (k),⟨cN a.q.method (k + 1),bM a.q.path (k + 1 + 1),aP ei aC a.q.fields (k + 1 + 1 + 1),bM a.q.body (k + 1 + 1 + 1 + (nL aC a.q.fields : Nat))⟩,⟨cN a.resp.status (k + 1 + 1 + 1 + (nL aC a.q.fields : Nat) + 1),aP ei aC a.resp.fields (k + 1 + 1 + 1 + (nL aC a.q.fields : Nat) + 1 + 1),bM a.resp.body (k + 1 + 1 + 1 + (nL aC a.q.fields : Nat) + 1 + 1 + (nL aC a.resp.fields : Nat))⟩,cN a.kind (k + 1 + 1 + 1 + (nL aC a.q.fields : Nat) + 1 + 1 + (nL aC a.resp.fields : Nat) + 1),cN a.t (k + 1 + 1 + 1 + (nL aC a.q.fields : Nat) + 1 + 1 + (nL aC a.resp.fields : Nat) + 1 + 1),⟨bM a.obj.path (k + 1 + 1 + 1 + (nL aC a.q.fields : Nat) + 1 + 1 + (nL aC a.resp.fields : Nat) + 1 + 1 + 1),aP bM aB a.obj.names (k + 1 + 1 + 1 + (nL aC a.q.fields : Nat) + 1 + 1 + (nL aC a.resp.fields : Nat) + 1 + 1 + 1 + 1),aP bM aB a.obj.values (k + 1 + 1 + 1 + (nL aC a.q.fields : Nat) + 1 + 1 + (nL aC a.resp.fields : Nat) + 1 + 1 + 1 + 1 + (nL aB a.obj.names : Nat)),⟨cN a.obj.resp.status (k + 1 + 1 + 1 + (nL aC a.q.fields : Nat) + 1 + 1 + (nL aC a.resp.fields : Nat) + 1 + 1 + 1 + 1 + (nL aB a.obj.names : Nat) + (nL aB a.obj.values : Nat)),aP ei aC a.obj.resp.fields (k + 1 + 1 + 1 + (nL aC a.q.fields : Nat) + 1 + 1 + (nL aC a.resp.fields : Nat) + 1 + 1 + 1 + 1 + (nL aB a.obj.names : Nat) + (nL aB a.obj.values : Nat) + 1),bM a.obj.resp.body (k + 1 + 1 + 1 + (nL aC a.q.fields : Nat) + 1 + 1 + (nL aC a.resp.fields : Nat) + 1 + 1 + 1 + 1 + (nL aB a.obj.names : Nat) + (nL aB a.obj.values : Nat) + 1 + (nL aC a.obj.resp.fields : Nat))⟩,cN a.obj.t (k + 1 + 1 + 1 + (nL aC a.q.fields : Nat) + 1 + 1 + (nL aC a.resp.fields : Nat) + 1 + 1 + 1 + 1 + (nL aB a.obj.names : Nat) + (nL aB a.obj.values : Nat) + 1 + (nL aC a.obj.resp.fields : Nat) + 1)⟩,cN a.de (k + 1 + 1 + 1 + (nL aC a.q.fields : Nat) + 1 + 1 + (nL aC a.resp.fields : Nat) + 1 + 1 + 1 + 1 + (nL aB a.obj.names : Nat) + (nL aB a.obj.values : Nat) + 1 + (nL aC a.obj.resp.fields : Nat) + 1 + 1)⟩
def QS (a : Rp) : Nat:=13 + nL aC a.q.fields + nL aC a.resp.fields + nL aB a.obj.names + nL aB a.obj.values + nL aC a.obj.resp.fields
def xM (a : Rq) (k : Int) : Rq:=⟨a.method,a.path,aP ei aC a.fields (k),a.body⟩
@[simp] theorem afe (a : Rq) (k : Int) : (xM a k).method = a.method:=rfl
@[simp] theorem aff (a : Rq) (k : Int) : (xM a k).path = a.path:=rfl
@[simp] theorem afd (a : Rq) (k : Int) : (xM a k).body = a.body:=rfl
def F7 (a : Rq) : Nat:=nL aC a.fields
def tc (a : bH) (k : Int) : bH:=⟨a.status,aP ei aC a.fields (k),a.body⟩
@[simp] theorem afh (a : bH) (k : Int) : (tc a k).status = a.status:=rfl
@[simp] theorem afg (a : bH) (k : Int) : (tc a k).body = a.body:=rfl
def YC (a : bH) : Nat:=nL aC a.fields
def F6 (a : Ob) (k : Int) : Ob:=⟨a.path,aP bM aB a.names (k),aP bM aB a.values (k + (nL aB a.names : Nat)),tc a.resp (k + (nL aB a.names : Nat) + (nL aB a.values : Nat)),a.t⟩
@[simp] theorem afa (a : Ob) (k : Int) : (F6 a k).path = a.path:=rfl
@[simp] theorem afb (a : Ob) (k : Int) : (F6 a k).resp = tc a.resp (k + (nL aB a.names : Nat) + (nL aB a.values : Nat)):=rfl
@[simp] theorem afc (a : Ob) (k : Int) : (F6 a k).t = a.t:=rfl
def qN (a : aV) (k : Int) : aV:=⟨aP bM aB a.cells (k),aP jw bZ a.pending (k + (nL aB a.cells : Nat))⟩
def fW (a : aV) : Nat:=nL aB a.cells + nL bZ a.pending
theorem L6 (a : aV) : fW a≤20 * cK a:=by
 unfold fW
 have:=E2 wS a.cells
 have:=AX bZ bX QT a.pending
 unfold cK
 omega
def ni (a : Sh) (k : Int) : Sh:=⟨qN a.cY (k),aP jv bT a.cv (k + (fW a.cY : Nat)),aP ju bY a.de (k + (fW a.cY : Nat) + (nL bT a.cv : Nat)),a.next,a.seq⟩
@[simp] theorem afi (a : Sh) (k : Int) : (ni a k).cY = qN a.cY (k):=rfl
@[simp] theorem afj (a : Sh) (k : Int) : (ni a k).next = a.next:=rfl
@[simp] theorem afk (a : Sh) (k : Int) : (ni a k).seq = a.seq:=rfl
def iZ (a : Sh) : Nat:=fW a.cY + nL bT a.cv + nL bY a.de
theorem YD (a : Sh) : iZ a≤20 * oV a:=by
 unfold iZ
 have:=L6 a.cY
 have:=AX bT ki QO a.cv
 have:=AX bY cj QM a.de
 unfold oV
 omega
def L5 (a : Ca) (k : Int) : Ca:=⟨ni a.jE (k),aP V9 CR a.um (k + (iZ a.jE : Nat)),a.now,aP Wb HV a.seen (k + (iZ a.jE : Nat) + (nL CR a.um : Nat)),aP Wa QS a.sent (k + (iZ a.jE : Nat) + (nL CR a.um : Nat) + (nL HV a.seen : Nat))⟩
@[simp] theorem ae3 (a : Ca) (k : Int) : (L5 a k).jE = ni a.jE (k):=rfl
@[simp] theorem ae2 (a : Ca) (k : Int) : (L5 a k).now = a.now:=rfl
def s9 (a : De) (k : Int) : De:=⟨a.kind,a.client,xM a.q (k),a.a,tc a.resp (k + (F7 a.q : Nat)),a.nC,aP jY aB a.keep (k + (F7 a.q : Nat) + (YC a.resp : Nat))⟩
@[simp] theorem ae7 (a : De) (k : Int) : (s9 a k).kind = a.kind:=rfl
@[simp] theorem ae6 (a : De) (k : Int) : (s9 a k).client = a.client:=rfl
@[simp] theorem ae8 (a : De) (k : Int) : (s9 a k).q = xM a.q (k):=rfl
@[simp] theorem ae4 (a : De) (k : Int) : (s9 a k).a = a.a:=rfl
@[simp] theorem ae9 (a : De) (k : Int) : (s9 a k).resp = tc a.resp (k + (F7 a.q : Nat)):=rfl
@[simp] theorem ae5 (a : De) (k : Int) : (s9 a k).nC = a.nC:=rfl
end M
namespace M
open Go Go.RowKit
theorem lg.cell [B : Bs] {w : World} (h : lg w) {b k : Nat} {v : Value} (hc : B.W0.cell? ⟨b,k,none⟩ = some v) : w.cell? ⟨b,k,none⟩ = some v:=by
 have hb : b < B.W0.heap.size:=by
  rcases Nat.lt_or_ge b B.W0.heap.size with h | h
  ·exact h
  ·simp [World.cell?,Array.getElem?_eq_none h] at hc
 have e:=h b hb
 simpa [World.cell?,e] using hc
theorem OU (w : World) : Below w.heap.size w w.drew:=(Below.refl _ _).drew
theorem OV (w : World) : ∀ n,Below w.heap.size w (w.drewN n):=fun n=>⟨rfl,rfl,rfl,Nat.le_refl _,fun _ _=>rfl⟩
theorem B5 {cs : List C} {s c : ByteArray} (h : cs.map C.er = [.str s,.str c]) : cs = [.str s,.str c]:=by
 obtain ⟨a,r,rfl,h1,h2⟩:=map_cons h
 obtain ⟨b,r',rfl,h3,h4⟩:=map_cons h2
 obtain rfl:=map_nil h4
 rw [ug h1,ug h3]
theorem WO {cs : List C} {s : ByteArray} (h : cs.map C.er = [.str s]) : cs = [.str s]:=by
 obtain ⟨a,r,rfl,h1,h2⟩:=map_cons h
 obtain rfl:=map_nil h2
 rw [ug h1]
theorem aa3 [Bs] {P : Program} {f0 : FuncId} (hc : ∀ (s : ByteArray) (c : UInt8),c.toNat < 128→∀ w,s.size≤9223372036854775807 →
  Calls P f0 #[.string s,.string ⟨#[c]⟩] w fun e w'=>e = .returned (.string ⟨(Lib.trimB s.data.toList c).toArray⟩)∧(w' = w∨w' = w.drew)) : (dK f0 B4).Sound P :=
 sF fun xs r hg w zl zb cs hx hA hs=>by
  unfold B4 at hg
  split at hg
  ·rename_i s c
   split at hg
   ·rename_i hh
    cases hg
    obtain rfl:=B5 hx
    have e : c = ⟨#[32]⟩:=by
     have:=congrArg List.toArray hh.1
     simp at this
     cases c; simp at this; rw [this]
    subst e
    refine (hc s 32 (by decide) w hh.2).mono fun e w' ⟨he,hw⟩=>⟨.str ⟨(ew s.data.toList).toArray⟩,he,rfl,?_,yU ?_⟩
    ·rcases hw with rfl | rfl
     ·exact Below.refl _ _
     ·exact OU _
    ·have:=L9 s.data.toList
     have h2:=hh.2
     simp only [ByteArray.size] at h2 ⊢
     simp at this ⊢
     omega
   ·cases hg
  ·cases hg
theorem Yh [B : Bs] {P : Program} {f0 : FuncId} {g1 : Nat} {t9 : TypeId} (hm : ∃ m,B.W0.cell? ⟨g1,0,none⟩ = some (.int .i64 m)) (hc : ∀ (s sep : ByteArray) (m : Int) (w : World),s.size < 4294967281→w.cell? ⟨g1,0,none⟩ = some (.int .i64 m)→1≤sep.size →
  Calls P f0 #[.string s,.string sep] w fun e w'=>e = .returned (.slice (some ⟨w.heap.size,0,none⟩) (Lib.countB s sep + 1) (Lib.countB s sep + 1))∧w' = w.alloc (.cells ((Lib.splitB sep 0 (Lib.countB s sep) s).map Value.string).toArray t9)) : (dK f0 xF).Sound P :=
 sF fun xs r hg w zl zb cs hx hA hs=>by
  unfold xF at hg
  split at hg
  ·rename_i s c
   split at hg
   ·rename_i hh
    cases hg
    obtain rfl:=B5 hx
    obtain ⟨m,hm⟩:=hm
    have hlen:=Lib.splitB_all c hh.2 0 _ s rfl
    have Jz:=Lib.splitB_data c 0 (Lib.countB s c) s
    refine (hc s c m w hh.1 (hs.cell hm) hh.2).mono fun e w' ⟨he,hw⟩=>?_
    subst hw
    refine ⟨.row .own 1 (some (w.heap.size,0,none)) (Lib.splitB c 0 (Lib.countB s c) s).length (Lib.splitB c 0 (Lib.countB s c) s).length fun i _=>.str ((Lib.splitB c 0 (Lib.countB s c) s).getD i ByteArray.empty),?_,?_,?_,?_⟩
    ·rw [he,hlen]; rfl
    ·rw [XU]
     unfold Bf
     congr 1
     have : Lib.split s.data.toList c.data.toList = (Lib.splitB c 0 (Lib.countB s c) s).map (·.data.toList):=Jz.symm
     rw [this,List.map_map]
     refine List.map_congr_left fun x _=>?_
     simp
    ·exact (Below.refl _ _).alloc (Nat.le_refl _) _
    ·refine T4 (Nat.le_refl _) (t:=t9) ?_ fun x hx=>?_
     ·show (w.heap.push _)[w.heap.size]? = _
      simp
     ·have h1 : x.data.toList∈Lib.splitK c.data.toList 0 (Lib.countB s c) s.data.toList:=by rw [← Jz]; exact List.mem_map_of_mem hx
      have h2 : ∀ (k : Nat) (l : List UInt8),∀ y∈Lib.splitK c.data.toList 0 k l,y.length≤l.length:=by
       intro k
       induction k with
       | zero=>intro l y hy; simp [Lib.splitK] at hy; rw [hy]; exact Nat.le_refl _
       | succ k ih =>
        intro l y hy
        unfold Lib.splitK at hy
        split at hy
        ·rw [List.mem_singleton.1 hy]; exact Nat.le_refl _
        ·rcases List.mem_cons.1 hy with rfl | hy
         ·simp
          omega
         ·have:=ih _ _ hy; simp at this; omega
      have h3:=h2 _ _ _ h1
      have h4:=hh.1
      have e1 : s.size = s.data.toList.length:=Lib.size_eq _
      have e2 : x.size = x.data.toList.length:=Lib.size_eq _
      omega
   ·cases hg
  ·cases hg
theorem yy (s c : ag) : (Lib.cut s c).1.length≤s.length∧(Lib.cut s c).2.1.length≤s.length:=by
 unfold Lib.cut
 split
 ·simp; omega
 ·simp
theorem Q0 [B : Bs] {P : Program} {f0 : FuncId} {g1 : Nat} (hm : ∃ m,B.W0.cell? ⟨g1,0,none⟩ = some (.int .i64 m)) (hc : ∀ (s sep : ByteArray) (m : Int) (w : World),s.size < 4294967281→w.cell? ⟨g1,0,none⟩ = some (.int .i64 m) →
  Calls P f0 #[.string s,.string sep] w fun e w'=>e = .returned (.tuple #[.string ⟨(Lib.cut s.data.toList sep.data.toList).1.toArray⟩,.string ⟨(Lib.cut s.data.toList sep.data.toList).2.1.toArray⟩,.bool (Lib.cut s.data.toList sep.data.toList).2.2])∧∃ n,w' = w.drewN n) : (dK f0 yx).Sound P :=
 sF fun xs r hg w zl zb cs hx hA hs=>by
  unfold yx at hg
  split at hg
  ·rename_i s c
   split at hg
   ·rename_i hh
    cases hg
    obtain rfl:=B5 hx
    obtain ⟨m,hm⟩:=hm
    have hl:=yy s.data.toList c.data.toList
    refine (hc s c m w hh (hs.cell hm)).mono fun e w' ⟨he,n,hw⟩=>?_
    subst hw
    refine ⟨xN [.str ⟨(Lib.cut s.data.toList c.data.toList).1.toArray⟩,.str ⟨(Lib.cut s.data.toList c.data.toList).2.1.toArray⟩,.bool (Lib.cut s.data.toList c.data.toList).2.2],?_,?_,OV _ n,I3 fun x hx=>?_⟩
    ·rw [he,Mc]; rfl
    ·rw [Mb]; rfl
    ·have hz : s.data.toList.length≤4294967281:=by
      have e1 : s.size = s.data.toList.length:=Lib.size_eq _
      omega
     simp only [List.mem_cons,List.not_mem_nil,or_false] at hx
     rcases hx with rfl | rfl | rfl
     ·exact ⟨yU (by simp only [ByteArray.size,List.size_toArray]; omega),trivial,fun _ _ h=>h⟩
     ·exact ⟨yU (by simp only [ByteArray.size,List.size_toArray]; omega),trivial,fun _ _ h=>h⟩
     ·exact ⟨Dj,trivial,fun _ _ h=>h⟩
   ·cases hg
  ·cases hg
theorem Wp [B : Bs] {P : Program} {f0 : FuncId} (hc : ∀ (s : ByteArray) (w : World),lg w→s.size≤9223372036854775807 →
  Calls P f0 #[.string s] w fun e w'=>e = .returned (.tuple #[.int .i64 (((aS s.data.toList).getD 0 : Nat) : Int),.bool (aS s.data.toList).isSome])∧Below w.heap.size w w') : (dK f0 A0).Sound P :=
 sF fun xs r hg w zl zb cs hx hA hs=>by
  unfold A0 at hg
  split at hg
  ·rename_i s
   split at hg
   ·rename_i hh
    cases hg
    obtain rfl:=WO hx
    refine (hc s w hs hh).mono fun e w' ⟨he,hw⟩=>?_
    refine ⟨xN [.int .i64 (((aS s.data.toList).getD 0 : Nat) : Int),.bool (aS s.data.toList).isSome],?_,?_,hw,I3 fun x hx=>?_⟩
    ·rw [he,Mc]; rfl
    ·rw [Mb]; cases aS s.data.toList <;> rfl
    ·simp only [List.mem_cons,List.not_mem_nil,or_false] at hx
     rcases hx with rfl | rfl
     ·exact ⟨T3,trivial,fun _ _ h=>h⟩
     ·exact ⟨Dj,trivial,fun _ _ h=>h⟩
   ·cases hg
  ·cases hg
theorem Vp [B : Bs] {P : Program} {f0 : FuncId} (htab : Lib.TabIs P B.W0 "internal/strconv.uint64pow10" .u64 Lib.pow10Tab) (hc : ∀ (n : Int),-9223372036854775808≤n→n≤9223372036854775807→∀ w,Lib.TabIs P w "internal/strconv.uint64pow10" .u64 Lib.pow10Tab →
  Calls P f0 #[.int .i64 n] w fun e w'=>e = .returned (.string ⟨(Lib.itoa n).toArray⟩)∧∃ k os,w' = Sort.grow (w.drewN k) os) : (iw f0 vF).Sound P :=
 Ub fun xs r h w hw=>by
  unfold vF at h
  split at h
  ·rename_i n
   split at h
   ·rename_i Jx
    cases h
    exact hc n Jx.1 Jx.2 w (TabIs.same htab hw)
   ·cases h
  ·cases h
end M
namespace Go.Proofs
open Go.RowKit
theorem Yx {P : Program} {w w' : World} {n : String} {k : IntKind} {zs : List Int} (h : Lib.TabIs P w n k zs) (hw : Below w.heap.size w w') : Lib.TabIs P w' n k zs:=by
 unfold Lib.TabIs World.var? at h ⊢
 cases hg : P.globalNamed n with
 | none=>rw [hg] at h; cases h
 | some g =>
  rw [hg] at h
  simp only [Option.bind_some] at h ⊢
  have hlt : g < w.heap.size:=by
   rcases Nat.lt_or_ge g w.heap.size with h' | h'
   ·exact h'
   ·rw [Array.getElem?_eq_none h'] at h; cases h
  rw [hw.block g hlt]
  exact h
theorem Mm [B : M.Bs] {P : Program} {w : World} {n : String} {cs : Array Value} (h : B.W0.var? P n = some cs) (hw : M.lg w) : w.var? P n = some cs:=by
 unfold World.var? at h ⊢
 cases hg : P.globalNamed n with
 | none=>rw [hg] at h; cases h
 | some g =>
  rw [hg] at h
  simp only [Option.bind_some] at h ⊢
  have hlt : g < B.W0.heap.size:=by
   rcases Nat.lt_or_ge g B.W0.heap.size with h' | h'
   ·exact h'
   ·rw [Array.getElem?_eq_none h'] at h; cases h
  rw [hw g hlt]
  exact h
theorem Uc (w : World) (k : Nat) (os : Array Obj) : Below w.heap.size w (Sort.grow (w.drewN k) os) :=
 ⟨rfl,rfl,rfl,by simp [Sort.grow,World.drewN],fun b hb=>by show (w.heap ++ os)[b]? = w.heap[b]?; exact Array.getElem?_append_left hb⟩
def lK (v : Int) (l : List UInt8) : Bool:=decide (0≤v∧v≤1000000∧Lib.itoa v = l)
def sH (v : Int) (l : List UInt8) : Int:=if lK v l = true then v else 0
theorem Wn {P : Program} {f a : FuncId} {s : ByteArray} {w : World} (hmax : s.size≤9223372036854775807)
  (UO : 7 < s.size→Calls P f #[.string s] w fun e w'=>e = .returned (.tuple #[.int .i64 0,.bool false])∧w' = w)
  (hok : ¬ 7 < s.size→∀ v,Lib.atoiAll s.data.toList = .ok v→Calls P f #[.string s] w fun e w'=>e = .returned (.tuple #[.int .i64 (sH v s.data.toList),.bool (lK v s.data.toList)])∧Below w.heap.size w w')
  (Uu : ¬ 7 < s.size→(∀ v,Lib.atoiAll s.data.toList≠.ok v)→Calls P f #[.string s] w fun e w'=>e = .returned (.tuple #[.int .i64 0,.bool false])∧Below w.heap.size w w') :
  Calls P f #[.string s] w fun e w'=>e = .returned (.tuple #[.int .i64 (((M.aS s.data.toList).getD 0 : Nat) : Int),.bool (M.aS s.data.toList).isSome])∧Below w.heap.size w w':=by
 have hl : s.size = s.data.toList.length:=Lib.size_eq _
 by_cases h : 7 < s.size
 ·rw [M.KF _ (by omega)]
  exact (UO h).mono fun e w' ⟨he,hw⟩=>⟨he,hw ▸ Below.refl _ _⟩
 by_cases hv : ∃ v,Lib.atoiAll s.data.toList = .ok v
 ·obtain ⟨v,hv⟩:=hv
  rw [← M.Wq _ _ hv]
  refine (hok h v hv).mono fun e w' ⟨he,hw⟩=>⟨?_,hw⟩
  rw [he]
  by_cases hb : lK v s.data.toList = true
  ·have hb':=hb
   unfold lK at hb'
   rw [decide_eq_true_eq] at hb'
   rw [sH,if_pos hb,hb,if_pos hb']
   simp; omega
  ·have hb':=hb
   unfold lK at hb'
   rw [decide_eq_true_eq] at hb'
   rw [sH,if_neg hb,if_neg hb']
   simp [hb]
 ·have cV : ∀ v,Lib.atoiAll s.data.toList≠.ok v:=fun v e=>hv ⟨v,e⟩
  rw [M.Wt _ cV]
  exact Uu h cV
theorem aeS {H : Type} {enc : TypeId×Value→H} {a : Assume} {C : Checked} {os : Os} {f : FuncId} {fn : Func} {s : ChangeSpec} {conds : List PathCond} {apart fresh handsOn again : Bool} {X : World→Array Value→Prop}
  (hX : ∀ (w w' : World) (args : Array Value),w.heap = w'.heap→X w args→X w' args)
  (own : ownKnob C.prog.godebug = none) (started : os.Started) (noInit : C.prog.inits.idxOf? f = none) (hfn : C.prog.funcs[f]? = some fn)
  (witness : ∃ (w : World) (tape : Tape) (i : Input),w.os = os∧(w.forCall tape i).Shaped C.prog∧i.vars = []∧Input.okWide C.prog (w.forCall tape i) .any w.heap.size f i ∧
   ((s.pre enc C.prog fn conds apart (w.forCall tape i).memory i.args∧X (w.forCall tape i).memory i.args)∧sizedMet enc C.prog fn (OpenSpec.ofChange s) apart (w.forCall tape i).memory i.args)∧a.holds C.prog (lone (Frame.enter C.prog f i.args .normal) [] (w.forCall tape i)))
  (contract : ∀ (W : World) (base : Nat) (args : Array Value) (ds gs : List (DataW H)) (before : List MemPlace),
   (∀ (j : Nat) t v,fn.params[j]? = some t→args[j]? = some v→Value.okWide C.prog W .any base t v) →
   DataW.Whole enc C.prog fn.params.toList s.vars apart W args.toList ds gs before →
   conds.all (PathCond.test C.prog ⟨fn.params.toList,ds,s.plain.varTypes C.prog,gs⟩) = true →
   (DataW.weightsEach C.prog (fn.params.toList ++ s.plain.varTypes C.prog) (ds ++ gs)).all (·≤reachBytes) = true→X W args →
   W.ShapedOpen C.prog →
   a.holds C.prog (lone (Frame.enter C.prog f args .normal) [] W) →
   Calls C.prog f args W fun e W'=>∃ v,e = .returned v∧s.post enc C.prog fn apart fresh handsOn again W args v W') :
  ReturnsInHanded a C os f .any (fun w args=>(s.pre enc C.prog fn conds apart w args∧X w args)∧sizedMet enc C.prog fn (OpenSpec.ofChange s) apart w args) (s.post enc C.prog fn apart fresh handsOn again):=by
 refine returnsInHanded_of_calls own started noInit witness ?_
 intro w tape i _ hsh _ hok hpre hholds
 obtain ⟨_,_,_,fn',UH,_,_,_,_,hval⟩:=hok
 have e : fn' = fn:=Option.some.inj (UH.symm.trans hfn)
 subst e
 obtain ⟨⟨⟨ds,gs,before,hw,hc⟩,hx⟩,hz⟩:=hpre
 have hw':=DataW.Whole.of_heap (w':=w.forCall tape i) (by rfl) hw
 refine (contract (w.forCall tape i) w.heap.size i.args ds gs before hval hw' hc (hz.weights hw) (hX _ _ _ (by rfl) hx) hsh hholds).mono fun e W' ⟨v,he,hp⟩=>?_
 subst he
 exact ChangeSpec.post_blind hp
end Go.Proofs
namespace M
open Go Go.RowKit
end M
namespace M
open Go Go.RowKit
theorem Us [B : Bs] {P : Program} {f0 : FuncId} (hc : ∀ (s p : ByteArray) (w : World),
  Calls P f0 #[.string s,.string p] w fun e w'=>e = .returned (.bool (Lib.hasPrefix s.data.toList p.data.toList))∧w' = w) : (dK f0 zc).Sound P :=
 sF fun xs r hg w zl zb cs hx hA hs=>by
  unfold zc at hg
  split at hg
  ·rename_i s c
   cases hg
   obtain rfl:=B5 hx
   refine (hc s c w).mono fun e w' ⟨he,hw⟩=>?_
   subst hw
   exact ⟨.bool (Lib.hasPrefix s.data.toList c.data.toList),he,rfl,Below.refl _ _,Dj⟩
  ·cases hg
end M
namespace M
open Go Go.RowKit
def gG (l : List (ByteArray×ByteArray)) : List UInt8:=l.flatMap fun f=>f.1.data.toList ++ [58,32] ++ f.2.data.toList ++ [13,10]
theorem I6 {l : List (ByteArray×ByteArray)} {k : Nat} (h : k < l.length) : gG (l.take (k + 1)) = gG (l.take k) ++ (l[k].1.data.toList ++ [58,32] ++ l[k].2.data.toList ++ [13,10]):=by
 unfold gG
 rw [List.take_succ_eq_append_getElem h,List.flatMap_append]
 simp only [List.flatMap_cons,List.flatMap_nil,List.append_nil]
theorem T7 {l : List (ByteArray×ByteArray)} {k : Nat} (h : k < l.length) : (gG (l.take k)).length + l[k].1.size + 2 + l[k].2.size + 2≤(gG l).length:=by
 have e : gG l = gG (l.take (k + 1)) ++ gG (l.drop (k + 1)):=by
  unfold gG
  rw [← List.flatMap_append,List.take_append_drop]
 rw [e,I6 h]
 simp only [List.length_append,List.length_cons,List.length_nil]
 have h1 : l[k].1.data.toList.length = l[k].1.size:=by rw [Array.length_toList]; rfl
 have h2 : l[k].2.data.toList.length = l[k].2.size:=by rw [Array.length_toList]; rfl
 omega
def yT (f : aF) : ByteArray×ByteArray:=(⟨f.name.toArray⟩,⟨f.value.toArray⟩)
theorem I5 (l : List aF) : gG (l.map yT) = gb l:=by
 unfold gG gb
 rw [List.flatMap_map]
 rfl
theorem Ro : ∀ {rows : List (List X)} {l : List aF},nT rows = some l→rows = l.map aK:=by
 intro rows
 induction rows with
 | nil=>intro l h; simp [nT] at h; subst h; rfl
 | cons r rows ih =>
  intro l h
  match r,h with
  | [.str a,.str b],h =>
   simp only [nT] at h
   cases hs : nT rows with
   | none=>rw [hs] at h; simp at h
   | some l' =>
    rw [hs] at h
    simp at h
    subst h
    rw [ih hs]
    simp
theorem Rl [B : Bs] {P : Program} {f0 : FuncId}
  (hc : ∀ (A : Option Addr) (cap : Nat) (fs : List (ByteArray×ByteArray)) (w : World),
   (∀ i f,fs[i]? = some f→∃ g o,A = some ⟨g,o,none⟩∧g < w.heap.size∧w.cell? ⟨g,o + i * 2,none⟩ = some (.string f.1)∧w.cell? ⟨g,o + i * 2 + 1,none⟩ = some (.string f.2)) →
   (gG fs).length≤140737488355328→fs.length≤140737488355328 →
   Calls P f0 #[.slice A fs.length cap] w fun e w'=>e = .returned (.string ⟨(gG fs).toArray⟩)∧Below w.heap.size w w') : (dK f0 yM).Sound P :=
 sF fun xs r hg w zl zb cs hx hA hs=>by
  unfold yM at hg
  split at hg
  ·rename_i rows
   split at hg
   ·rename_i l hl
    split at hg
    ·rename_i hh
     cases hg
     obtain ⟨c1,r1,rfl,h1,h2⟩:=map_cons hx
     obtain rfl:=map_nil h2
     obtain ⟨A,len,cap,e,rfl,hlen,hrow⟩:=Rf h1
     have hrows:=Ro hl
     have pT : len = l.length:=by rw [hlen,hrows]; simp
     have ok:=hA.ok _ (List.mem_cons_self ..)
     obtain ⟨k1,k2,k3,k4,k5⟩:=ok
     have hcell : ∀ i f,(l.map yT)[i]? = some f→∃ g o,(A.map fun q=>(⟨q.1,q.2.1,q.2.2⟩ : Addr)) = some ⟨g,o,none⟩∧g < w.heap.size∧w.cell? ⟨g,o + i * 2,none⟩ = some (.string f.1)∧w.cell? ⟨g,o + i * 2 + 1,none⟩ = some (.string f.2):=by
      intro i f hi
      have hi2 : i < l.length:=by
       have:=List.getElem?_eq_some_iff.1 hi
       simpa using this.1
      obtain ⟨g,o,jh,h0,_⟩:=k2 i 0 (by omega) (by omega)
      obtain ⟨g',o',Jm,h0',_⟩:=k2 i 1 (by omega) (by omega)
      rw [jh] at Jm
      cases Jm
      have hr:=hrow i (by omega)
      rw [hrows,List.getElem?_map,List.getElem?_eq_getElem hi2] at hr
      rw [List.getElem?_map,List.getElem?_eq_getElem hi2] at hi
      simp [List.range_succ,yT] at hr hi
      obtain ⟨r1,r2⟩:=hr
      have q1:=ug r1.symm
      have q2:=ug r2.symm
      rw [q1] at h0
      rw [q2] at h0'
      subst hi
      refine ⟨g,o,by rw [jh]; rfl,?_,by simpa [C.val] using h0,by simpa [C.val] using h0'⟩
      rcases Nat.lt_or_ge g w.heap.size with h | h
      ·exact h
      ·simp [World.cell?,Array.getElem?_eq_none h] at h0
     have key:=hc (A.map fun q=>(⟨q.1,q.2.1,q.2.2⟩ : Addr)) cap (l.map yT) w hcell (by rw [I5]; exact hh.1) (by simpa using hh.2)
     rw [I5,List.length_map,← pT] at key
     refine Calls.mono key fun e w' ⟨he,hb⟩=>?_
     exact ⟨.str ⟨(gb l).toArray⟩,he,rfl,hb,yU (by have:=hh.1; simp only [ByteArray.size,List.size_toArray]; omega)⟩
    ·cases hg
   ·cases hg
  ·cases hg
end M
namespace M
open Go
def cr {β γ ε : Type} (go : Nat→γ→β→γ ⊕ ε) : Nat→List β→γ→γ ⊕ ε
 | _,[],g=>.inl g
 | i,b :: l,g=>match go i g b with
  | .inl g'=>cr go (i + 1) l g'
  | .inr e=>.inr e
theorem wo {xt : Nat} {β γ ε : Type} {f : ah→bG} (l : List β) (st : Nat→γ→ah) (go : Nat→γ→β→γ ⊕ ε) (E : γ→ah) (R : ε→Ex×ah) (Inv : Nat→γ→Prop) (g : γ) (h0 : Inv 0 g)
  (h : ∀ i b g,l[i]? = some b→i < l.length→Inv i g→f (st i g) = (match go i g b with | .inl g'=>some (.normal,st (i + 1) g') | .inr e=>lv (R e)))
  (hI : ∀ i b g g',l[i]? = some b→Inv i g→go i g b = .inl g'→Inv (i + 1) g')
  (hend : ∀ g,Inv l.length g→f (st l.length g) = some (.exit xt,E g)) :
  aD f (st 0 g) = (match cr go 0 l g with | .inl g'=>some (.exit xt,E g') | .inr e=>lv (R e)):=by
 suffices H : ∀ (r : List β) (i : Nat) (g : γ),Inv i g→l.drop i = r→i≤l.length→aD f (st i g) = (match cr go i r g with | .inl g'=>some (.exit xt,E g') | .inr e=>lv (R e)) from H l 0 g h0 rfl (Nat.zero_le _)
 intro r
 induction r with
 | nil =>
  intro i g hi hr hl
  have : i = l.length:=by
   have:=congrArg List.length hr
   simp at this
   omega
  subst this
  rw [cM,hend g hi]
  rfl
 | cons b r ih =>
  intro i g hi hr hl
  have hlt : i < l.length:=by
   rcases Nat.lt_or_ge i l.length with h | h
   ·exact h
   ·rw [List.drop_eq_nil_of_le h] at hr; cases hr
  have hd:=List.drop_eq_getElem_cons hlt
  rw [hr] at hd
  have hb : l[i]? = some b:=by
   rw [List.getElem?_eq_getElem hlt]
   cases hd; rfl
  have hr' : l.drop (i + 1) = r:=by cases hd; rfl
  rw [cM,h i b g hb hlt hi]
  unfold cr
  cases hg : go i g b with
  | inl g'=>exact ih (i + 1) g' (hI i b g g' hb hi hg) hr' hlt
  | inr e =>
   rcases hR : R e with ⟨x,s⟩
   cases x <;> simp [dG,lv,hR]
theorem Lv {β γ ε : Type} {go : Nat→γ→β→γ ⊕ ε} {g : γ} (r : List β) : ∀ (l : List β) (i : Nat),(∀ j (h : j < l.length),go (i + j) g l[j] = .inl g)→cr go i (l ++ r) g = cr go (i + l.length) r g
 | [],i,_=>by simp
 | b :: l,i,h=>by
  have h0:=h 0 (by simp)
  simp only [Nat.add_zero,List.getElem_cons_zero] at h0
  rw [List.cons_append,cr,h0]
  simp only
  rw [Lv r l (i + 1) (fun j hj=>by
   have:=h (j + 1) (by simp; omega)
   simp only [List.getElem_cons_succ] at this
   rw [show i + 1 + j = i + (j + 1) by omega]
   exact this),List.length_cons]
  congr 1
  omega
theorem Lu {β γ ε : Type} (go : Nat→γ→β→γ ⊕ ε) (k : Nat) : ∀ (l : List β) (i : Nat) (g : γ),cr (fun j=>go (j + k)) i l g = cr go (i + k) l g
 | [],_,_=>rfl
 | b :: l,i,g=>by
  rw [cr,cr]
  cases go (i + k) g b with
  | inl g' =>
   simp only
   rw [Lu go k l (i + 1) g',show i + 1 + k = i + k + 1 by omega]
  | inr e=>rfl
theorem Ft {β γ ε : Type} {go : Nat→γ→β→γ ⊕ ε} {I : Nat→γ→Prop} {O : ε→Prop} (n : Nat) (h : ∀ i g b,i < n→I i g→(∀ g',go i g b = .inl g'→I (i + 1) g')∧∀ e,go i g b = .inr e→O e) : ∀ (l : List β) (i : Nat) (g : γ),i + l.length = n→I i g→(∀ g',cr go i l g = .inl g'→I n g')∧∀ e,cr go i l g = .inr e→O e
 | [],i,g,hn,hg=>by
  have : i = n:=by simpa using hn
  subst this
  exact ⟨fun g' e=>by cases e; exact hg,fun e h=>by cases h⟩
 | b :: l,i,g,hn,hg=>by
  have h1:=h i g b (by simp at hn; omega) hg
  rw [cr]
  cases fe : go i g b with
  | inl g'=>exact Ft n h l (i + 1) g' (by simp at hn; omega) (h1.1 g' fe)
  | inr e=>exact ⟨fun g' e=>(by cases e),fun e he=>(by cases he; exact h1.2 _ fe)⟩
end M
namespace M
open Go
def crlf : ag:=[13,10]
def aN : ag:=[13,10,13,10]
def aZ (c : UInt8) (s : ag) : Prop:=∀ b∈s,b≠c
theorem iu {c : UInt8} {s t : ag} : aZ c (s ++ t)↔aZ c s∧aZ c t:=by
 unfold aZ
 constructor
 ·intro h
  exact ⟨fun b hb=>h b (List.mem_append_left _ hb),fun b hb=>h b (List.mem_append_right _ hb)⟩
 ·intro h b hb
  rcases List.mem_append.1 hb with hb | hb
  ·exact h.1 b hb
  ·exact h.2 b hb
theorem qp {c b : UInt8} {s : ag} : aZ c (b :: s)↔b≠c∧aZ c s:=by simp [aZ]
theorem z7 (c : UInt8) (t : ag) : ∀ (l r : ag),aZ c l→Lib.index (l ++ r) (c :: t) = if Lib.index r (c :: t) = -1 then -1 else Lib.index r (c :: t) + l.length
 | [],r,_=>by
  simp only [List.nil_append,List.length_nil]
  split <;> simp_all
 | b :: l,r,h=>by
  rw [qp] at h
  have ih:=z7 c t l r h.2
  have hge:=Lib.index_ge r (c :: t)
  rw [List.cons_append,Lib.index,ih]
  have hcb : (c == b) = false:=by simp; exact fun e=>h.1 e.symm
  have hp : (c :: t).isPrefixOf (b :: (l ++ r)) = false:=by simp [List.isPrefixOf,hcb]
  rw [hp]
  simp only [Bool.false_eq_true,if_false,List.length_cons]
  by_cases g : Lib.index r (c :: t) = -1
  ·simp [g]
  ·have g2 : ¬ (Lib.index r (c :: t) + l.length = -1):=by omega
   simp only [g,if_false,beq_iff_eq,g2]
   omega
theorem Vi (c : UInt8) (t : ag) (l : ag) (h : aZ c l) : Lib.index l (c :: t) = -1:=by
 have:=z7 c t l [] h
 rw [List.append_nil] at this
 rw [this]
 rfl
theorem Ef (c : UInt8) (t : ag) (l r : ag) (h : aZ c l) : Lib.index (l ++ (c :: t ++ r)) (c :: t) = l.length:=by
 have h0 : Lib.index (c :: t ++ r) (c :: t) = 0:=by
  rw [List.cons_append,Lib.index,if_pos (by simp)]
 rw [z7 c t l _ h,h0]
 simp
theorem Ic (c : UInt8) (t : ag) (l r : ag) (h : aZ c l) : Lib.cut (l ++ (c :: t ++ r)) (c :: t) = (l,r,true):=by
 unfold Lib.cut
 rw [Ef c t l r h,if_pos (by omega)]
 have e1 : ((l.length : Int)).toNat = l.length:=by omega
 rw [e1,List.take_left]
 have e2 : l ++ (c :: t ++ r) = (l ++ c :: t) ++ r:=by simp
 have e3 : l.length + (c :: t).length = (l ++ c :: t).length:=by simp
 rw [e2,e3,List.drop_left]
theorem Yg (c : UInt8) (t : ag) (n : Nat) (l : ag) (h : aZ c l) : Lib.splitK (c :: t) 0 n l = [l]:=by
 cases n with
 | zero=>rfl
 | succ n=>rw [Lib.splitK,Vi c t l h]; rfl
theorem Yk (c : UInt8) (t : ag) (l : ag) (h : aZ c l) : Lib.split l (c :: t) = [l]:=Yg c t _ l h
theorem Yi (c : UInt8) (t : ag) (l r : ag) (h : aZ c l) : Lib.split (l ++ (c :: t ++ r)) (c :: t) = l :: Lib.split r (c :: t):=by
 have hi:=Ef c t l r h
 have e2 : l ++ (c :: t ++ r) = (l ++ c :: t) ++ r:=by simp
 have e3 : l.length + (c :: t).length = (l ++ c :: t).length:=by simp
 have hd : (l ++ (c :: t ++ r)).drop (l.length + (c :: t).length) = r:=by rw [e2,e3,List.drop_left]
 have hc:=Lib.count_hit (s:=l ++ (c :: t ++ r)) (sub:=c :: t) (by simp) hi
 rw [hd] at hc
 unfold Lib.split
 rw [hc,Nat.add_comm,Lib.splitK,hi]
 have g : ¬ (((l.length : Int)) == -1) = true:=by simp
 rw [if_neg g]
 have e1 : ((l.length : Int)).toNat = l.length:=by omega
 rw [e1,hd,Nat.add_zero,List.take_left]
def lines : List ag→ag
 | []=>[]
 | [l]=>l
 | l :: k :: ls=>l ++ (crlf ++ lines (k :: ls))
theorem Ki : ∀ (ls : List ag),ls≠[]→(∀ l∈ls,aZ 13 l)→Lib.split (lines ls) crlf = ls
 | [l],_,h=>Yk 13 [10] l (h l (List.mem_cons_self ..))
 | l :: k :: ls,_,h=>by
  have ih:=Ki (k :: ls) (by simp) fun x hx=>h x (List.mem_cons_of_mem _ hx)
  have:=Yi 13 [10] l (lines (k :: ls)) (h l (List.mem_cons_self ..))
  show Lib.split (l ++ (crlf ++ lines (k :: ls))) crlf = _
  rw [show crlf = 13 :: [10] from rfl,this]
  rw [show (13 :: [10] : ag) = crlf from rfl,ih]
theorem VP : ∀ (ls : List ag),ls≠[]→(∀ l∈ls,l≠[])→(∀ l∈ls,aZ 13 l)→∃ b t,lines ls = b :: t∧b≠13
 | [l],_,h,h2=>by
  obtain ⟨b,t,e⟩:=List.exists_cons_of_ne_nil (h l (List.mem_cons_self ..))
  exact ⟨b,t,e,h2 l (List.mem_cons_self ..) b (by rw [e]; exact List.mem_cons_self ..)⟩
 | l :: k :: ls,_,h,h2=>by
  obtain ⟨b,t,e⟩:=List.exists_cons_of_ne_nil (h l (List.mem_cons_self ..))
  exact ⟨b,t ++ (crlf ++ lines (k :: ls)),by show l ++ _ = _; rw [e]; rfl,h2 l (List.mem_cons_self ..) b (by rw [e]; exact List.mem_cons_self ..)⟩
theorem Kh (b : ag) : ∀ (ls : List ag),ls≠[]→(∀ l∈ls,l≠[])→(∀ l∈ls,aZ 13 l)→Lib.index (lines ls ++ (aN ++ b)) aN = (lines ls).length
 | [l],_,h,h2=>Ef 13 [10,13,10] l b (h2 l (List.mem_cons_self ..))
 | l :: k :: ls,_,h,h2=>by
  have hk : ∀ x∈k :: ls,x≠[]:=fun x hx=>h x (List.mem_cons_of_mem _ hx)
  have hk2 : ∀ x∈k :: ls,aZ 13 x:=fun x hx=>h2 x (List.mem_cons_of_mem _ hx)
  have ih:=Kh b (k :: ls) (by simp) hk hk2
  obtain ⟨c,t,e,hc⟩:=VP (k :: ls) (by simp) hk hk2
  have e0 : lines (l :: k :: ls) ++ (aN ++ b) = l ++ (13 :: 10 :: (lines (k :: ls) ++ (aN ++ b))):=by
   show (l ++ (crlf ++ lines (k :: ls))) ++ (aN ++ b) = _
   simp [crlf]
  have e1 : (lines (l :: k :: ls)).length = l.length + 2 + (lines (k :: ls)).length:=by
   show (l ++ (crlf ++ lines (k :: ls))).length = _
   simp [crlf]; omega
  have hcb : ((13 : UInt8) == c) = false:=by simp; exact fun e=>hc e.symm
  have p1 : aN.isPrefixOf (13 :: 10 :: (lines (k :: ls) ++ (aN ++ b))) = false:=by
   rw [e]
   simp [aN,List.isPrefixOf,hcb]
  have p2 : aN.isPrefixOf (10 :: (lines (k :: ls) ++ (aN ++ b))) = false:=by simp [aN,List.isPrefixOf]
  have e2 : Lib.index (13 :: 10 :: (lines (k :: ls) ++ (aN ++ b))) aN = (lines (k :: ls)).length + 2:=by
   rw [Lib.index,p1,Lib.index,p2,ih]
   have q1 : ¬ (((lines (k :: ls)).length : Int) == -1) = true:=by simp
   simp only [Bool.false_eq_true,if_false,q1]
   have q2 : ¬ (((lines (k :: ls)).length : Int) + 1 == -1) = true:=by simp; omega
   simp only [q2]
   simp
   omega
  rw [e0,show aN = 13 :: [10,13,10] from rfl,z7 13 [10,13,10] l _ (h2 l (List.mem_cons_self ..)),show (13 :: [10,13,10] : ag) = aN from rfl,e2,e1,if_neg (by omega)]
  omega
theorem VO (b : ag) (ls : List ag) (h0 : ls≠[]) (h : ∀ l∈ls,l≠[]) (h2 : ∀ l∈ls,aZ 13 l) : Lib.cut (lines ls ++ (aN ++ b)) aN = (lines ls,b,true):=by
 unfold Lib.cut
 rw [Kh b ls h0 h h2,if_pos (by omega)]
 have e1 : (((lines ls).length : Int)).toNat = (lines ls).length:=by omega
 have e2 : lines ls ++ (aN ++ b) = (lines ls ++ aN) ++ b:=by simp
 have e3 : (lines ls).length + aN.length = (lines ls ++ aN).length:=by simp
 rw [e1,List.take_left,e3,e2,List.drop_left]
def lJ : ag:=[72,84,84,80,47,49,46,49]
def fG (f : aF) : ag:=f.name ++ ([58,32] ++ f.value)
def yV (fs : List aF) : ag:=fs.flatMap fun f=>fG f ++ crlf
def iq (b : ag) : ag:=cF ++ ([58,32] ++ aL b.length)
def iY (r : bH) : ag:=lJ ++ 32 :: (aL r.status.toNat ++ [32,46])
def eu (r : bH) : List ag:=iY r :: (r.fields.map fG ++ [iq r.body])
def en (r : bH) : ag:=lines (eu r) ++ (aN ++ r.body)
def dU (r : bH) : ag:=if dS r = true then en r else []
theorem T5 (fs : List aF) : gb fs = yV fs:=by
 unfold gb yV
 congr 1
 funext f
 simp [nR,fG,crlf]
theorem VN (fs : List aF) (l z : ag) : lines (l :: (fs.map fG ++ [z])) = l ++ (crlf ++ (yV fs ++ z)):=by
 induction fs generalizing l with
 | nil=>rfl
 | cons f fs ih =>
  show l ++ (crlf ++ lines (fG f :: (fs.map fG ++ [z]))) = _
  rw [ih]
  simp [yV]
theorem Lp (r : bH) : en r = iY r ++ (crlf ++ (gb r.fields ++ (iq r.body ++ (aN ++ r.body)))):=by
 unfold en eu
 rw [VN,T5]
 simp
theorem nN (c : UInt8) (hc : c.toNat < 48∨57 < c.toNat) (n : Nat) : aZ c (aL n):=by
 intro b hb e
 have:=iB.1 (CU n) b hb
 simp only [fF,decide_eq_true_eq] at this
 subst e
 omega
theorem B2 (c : UInt8) (hc : oT c = false) {s : ag} (h : cW s = true) : aZ c s:=by
 intro b hb e
 unfold cW at h
 simp only [Bool.and_eq_true] at h
 have:=iB.1 h.1 b hb
 rw [e,hc] at this
 cases this
theorem YE {s : ag} (h : cW s = true) : s≠[]:=by
 rintro rfl
 simp [cW] at h
theorem Gf (c : UInt8) (hc : fY 32 c = false) {s : ag} (h : dV s = true) : aZ c s:=by
 intro b hb e
 unfold dV at h
 simp only [Bool.and_eq_true] at h
 have:=iB.1 h.1.1 b hb
 rw [e,hc] at this
 cases this
theorem yN {fs : List aF} (h : jd fs = true) {f : aF} (hf : f∈fs) : cW f.name = true∧dV f.value = true∧f.name≠cF:=by
 unfold jd at h
 simp only [Bool.and_eq_true] at h
 obtain ⟨i,hi,rfl⟩:=List.getElem_of_mem hf
 have:=iB.1 h.1 (fs[i],i) (List.mem_of_getElem? (i:=i) (by simp [hi]))
 unfold gF at this
 simp only [Bool.and_eq_true,Bool.not_eq_true',decide_eq_false_iff_not] at this
 exact ⟨this.1.1.1,this.1.1.2,this.2⟩
theorem Iz {fs : List aF} (h : jd fs = true) : fs.length≤8:=by
 unfold jd at h
 simp only [Bool.and_eq_true,decide_eq_true_eq] at h
 omega
theorem Rj {f : aF} (h1 : cW f.name = true) (h2 : dV f.value = true) : aZ 13 (fG f)∧aZ 10 (fG f)∧fG f≠[]:=by
 refine ⟨?_,?_,?_⟩
 ·unfold fG
  rw [iu,iu]
  exact ⟨B2 13 (by decide) h1,by simp [aZ],Gf 13 (by decide) h2⟩
 ·unfold fG
  rw [iu,iu]
  exact ⟨B2 10 (by decide) h1,by simp [aZ],Gf 10 (by decide) h2⟩
 ·have:=YE h1
  simp [fG]
theorem VH (b : ag) : aZ 13 (iq b)∧aZ 10 (iq b)∧iq b≠[]:=by
 refine ⟨?_,?_,by simp [iq]⟩
 ·unfold iq
  rw [iu,iu]
  exact ⟨by simp [aZ,cF],by simp [aZ],nN 13 (by decide) _⟩
 ·unfold iq
  rw [iu,iu]
  exact ⟨by simp [aZ,cF],by simp [aZ],nN 10 (by decide) _⟩
theorem XY (r : bH) : aZ 13 (iY r)∧aZ 10 (iY r)∧iY r≠[]:=by
 refine ⟨?_,?_,by simp [iY,lJ]⟩
 ·unfold iY
  rw [iu,qp,iu]
  exact ⟨by simp [aZ,lJ],by decide,nN 13 (by decide) _,by simp [aZ]⟩
 ·unfold iY
  rw [iu,qp,iu]
  exact ⟨by simp [aZ,lJ],by decide,nN 10 (by decide) _,by simp [aZ]⟩
theorem Ls {r : bH} (h : jd r.fields = true) : ∀ l∈eu r,aZ 13 l∧aZ 10 l∧l≠[]:=by
 intro l hl
 unfold eu at hl
 simp only [List.mem_cons,List.mem_append,List.mem_map,List.not_mem_nil,or_false] at hl
 rcases hl with rfl | ⟨f,hf,rfl⟩ | rfl
 ·exact XY r
 ·have:=yN h hf
  exact Rj this.1 this.2.1
 ·exact VH r.body
end M
namespace M
open Go
open Classical in
noncomputable def j8 {α : Type} (body : α→ag) (ok : α→Bool) (z : α) (s : ag) : α×Bool :=
 if h : ∃ r,ok r = true∧body r = s then (h.choose,true) else (z,false)
theorem A8 {α : Type} {body : α→ag} {ok : α→Bool} {z : α} {cand : ag→Option α} (hc : ∀ r,ok r = true→cand (body r) = some r) (s : ag) :
  j8 body ok z s = match cand s with
   | some r=>if ok r = true∧body r = s then (r,true) else (z,false)
   | none=>(z,false):=by
 unfold j8
 by_cases h : ∃ r,ok r = true∧body r = s
 ·rw [dif_pos h]
  have h1:=h.choose_spec
  have h2:=hc _ h1.1
  rw [h1.2] at h2
  rw [h2]
  simp only
  rw [if_pos h1]
 ·rw [dif_neg h]
  cases hs : cand s with
  | none=>rfl
  | some r =>
   simp only
   rw [if_neg]
   exact fun hr=>h ⟨r,hr⟩
theorem Ld {α : Type} {body : α→ag} {ok : α→Bool} {z : α} {s : ag} (h : (j8 body ok z s).2 = true) : ok (j8 body ok z s).1 = true∧body (j8 body ok z s).1 = s:=by
 unfold j8 at h ⊢
 by_cases g : ∃ r,ok r = true∧body r = s
 ·rw [dif_pos g]; exact g.choose_spec
 ·rw [dif_neg g] at h; cases h
theorem Lc {α : Type} {body : α→ag} {ok : α→Bool} {z : α} {s : ag} (h : (j8 body ok z s).2 = false) : j8 body ok z s = (z,false):=by
 unfold j8 at h ⊢
 by_cases g : ∃ r,ok r = true∧body r = s
 ·rw [dif_pos g] at h; cases h
 ·rw [dif_neg g]
theorem Lb {α : Type} {body : α→ag} {ok : α→Bool} {z : α} {cand : ag→Option α} (hc : ∀ r,ok r = true→cand (body r) = some r) {r : α} (h : ok r = true) : j8 body ok z (body r) = (r,true):=by
 rw [A8 hc,hc r h]
 simp only
 rw [if_pos ⟨h,trivial⟩]
def colon : ag:=[58,32]
def jP : List ag→Option (List aF)
 | []=>some []
 | l :: ls=>if (Lib.cut l colon).2.2 = true then (if ls = []∧(Lib.cut l colon).1 = cF then some [] else (jP ls).map fun fs=>⟨(Lib.cut l colon).1,(Lib.cut l colon).2.1⟩ :: fs) else none
def jy (s : ag) : Option (ag×List aF×ag) :=
 if (Lib.cut s aN).2.2 = true∧((Lib.split (Lib.cut s aN).1 crlf).length : Int)≤10 then (jP (Lib.split (Lib.cut s aN).1 crlf).tail).map fun fs=>((Lib.split (Lib.cut s aN).1 crlf).headD [],fs,(Lib.cut s aN).2.1)
 else none
def ja (ws : List ag) : Option ag:=match ws with
 | [_,w,_]=>some w
 | _=>none
def lT (s : ag) : Option bH:=(jy s).bind fun p=>(ja (aQ 32 p.1)).map fun w=>⟨(((aS w).getD 0 : Nat) : Int),p.2.1,p.2.2⟩
def bD : bH:=⟨0,[],[]⟩
noncomputable def cg (s : ag) : bH×Bool:=j8 en dS bD s
theorem xG (w r : ag) (h : aZ 32 w) : aQ 32 (w ++ 32 :: r) = w :: aQ 32 r:=by
 rw [xE 32 w _ h]
 simp [aQ]
theorem Lr (r : bH) : aQ 32 (iY r) = [lJ,aL r.status.toNat,[46]]:=by
 unfold iY
 rw [xG _ _ (by simp [aZ,lJ]),show ([32,46] : ag) = 32 :: [46] from rfl,xG _ _ (nN 32 (by decide) _),FW 32 [46] (by simp)]
theorem IV (b : ag) : ∀ (fs : List aF),(∀ f∈fs,cW f.name = true∧dV f.value = true∧f.name≠cF)→jP (fs.map fG ++ [iq b]) = some fs
 | [],_=>by
  have : Lib.cut (iq b) colon = (cF,aL b.length,true):=Ic 58 [32] cF (aL b.length) (by simp [aZ,cF])
  simp [jP,this]
 | f :: fs,h=>by
  have hf:=h f (List.mem_cons_self ..)
  have ih:=IV b fs fun x hx=>h x (List.mem_cons_of_mem _ hx)
  have : Lib.cut (fG f) colon = (f.name,f.value,true):=Ic 58 [32] f.name f.value (B2 58 (by decide) hf.1)
  simp only [List.map_cons,List.cons_append,jP,this,ih]
  simp
theorem Fi {r : bH} (h : dS r = true) : (100≤r.status∧r.status≤599)∧jd r.fields = true∧r.body.length≤120:=by
 unfold dS at h
 simp only [Bool.and_eq_true,decide_eq_true_eq] at h
 exact ⟨h.1.1,h.1.2,by omega⟩
theorem Fq {r : bH} (h : dS r = true) : lT (en r) = some r:=by
 obtain ⟨hs,hf,hb⟩:=Fi h
 have hl:=Ls hf
 have hne : eu r≠[]:=by simp [eu]
 have hc:=VO r.body (eu r) hne (fun l h=>(hl l h).2.2) (fun l h=>(hl l h).1)
 have hsp:=Ki (eu r) hne (fun l h=>(hl l h).1)
 have hlen:=Iz hf
 have hp : jy (en r) = some (iY r,r.fields,r.body):=by
  unfold jy en
  rw [hc]
  simp only
  rw [hsp,if_pos ⟨trivial,by simp [eu]; omega⟩]
  have ht : (eu r).tail = r.fields.map fG ++ [iq r.body]:=rfl
  rw [ht,IV r.body r.fields fun f hf'=>yN hf hf']
  rfl
 unfold lT
 rw [hp]
 simp only [Option.bind_some]
 rw [Lr]
 have hn : aS (aL r.status.toNat) = some r.status.toNat:=jZ.2 ⟨by omega,rfl⟩
 simp only [ja,Option.map_some,hn,Option.getD_some]
 have : ((r.status.toNat : Nat) : Int) = r.status:=by omega
 rw [this]
theorem Be {r : bH} {s : ag} (hs : s≠[]) : dU r = s↔dS r = true∧en r = s:=by
 unfold dU
 constructor
 ·intro h
  split at h
  ·rename_i g; exact ⟨g,h⟩
  ·exact absurd h.symm hs
 ·rintro ⟨g,h⟩
  rw [if_pos g,h]
theorem Lq (r : bH) : en r≠[]:=by
 rw [Lp]
 simp [iY,lJ]
theorem Fk (r : bH) : dU r = []↔¬ dS r = true:=by
 unfold dU
 have:=Lq r
 split <;> simp_all
theorem XP (s : ag) : cg s = match lT s with
  | some r=>if dU r = s∧s≠[] then (r,true) else (bD,false)
  | none=>(bD,false):=by
 unfold cg
 rw [A8 (cand:=lT) (fun r h=>Fq h) s]
 cases lT s with
 | none=>rfl
 | some r =>
  simp only
  by_cases hs : s = []
  ·subst hs
   rw [if_neg (fun h=>Lq r h.2),if_neg (by simp)]
  ·by_cases g : dU r = s
   ·rw [if_pos ((Be hs).1 g),if_pos ⟨g,hs⟩]
   ·rw [if_neg (mt (Be hs).2 g),if_neg (fun h=>g h.1)]
def kR : ag:=[111,98,106]
def oF (o : Ob) : ag:=kR ++ 32 :: (o.path ++ 32 :: (cZ o.t ++ 32 :: aL o.values.length))
def fX (l : List ag) : ag:=l.flatMap fun v=>v ++ [10]
def j0 (o : Ob) : ag:=oF o ++ 10 :: (fX o.values ++ en o.resp)
def fo (o : Ob) : ag:=if dD o = true then j0 o else []
def cu : Ob:=⟨[],[],[],bD,0⟩
noncomputable def fm (s : ag) : Ob×Bool:=j8 j0 dD cu s
def dY (s : ag) : ag×ag:=(bP 10 s).getD (s,[])
def cT : Nat→ag→List ag×ag
 | 0,s=>([],s)
 | n + 1,s=>((dY s).1 :: (cT n (dY s).2).1,(cT n (dY s).2).2)
def jJ (ws : List ag) : Option (ag×ag×ag):=match ws with
 | [_,p,t,n]=>some (p,t,n)
 | _=>none
theorem CS (p r : ag) (h : aZ 10 p) : bP 10 (p ++ 10 :: r) = some (p,r):=by
 induction p with
 | nil=>simp [bP]
 | cons b p ih =>
  rw [qp] at h
  rw [List.cons_append,bP,if_neg h.1,ih h.2]
  rfl
theorem Ia (p r : ag) (h : aZ 10 p) : dY (p ++ 10 :: r) = (p,r):=by
 unfold dY
 rw [CS p r h]
 rfl
theorem L1 (r : ag) : ∀ (l : List ag),(∀ v∈l,aZ 10 v)→cT l.length (fX l ++ r) = (l,r)
 | [],_=>rfl
 | v :: l,h=>by
  have e : fX (v :: l) ++ r = v ++ 10 :: (fX l ++ r):=by simp [fX]
  rw [e,List.length_cons,cT,Ia v _ (h v (List.mem_cons_self ..)),L1 r l fun x hx=>h x (List.mem_cons_of_mem _ hx)]
theorem Mp (c : UInt8) {lo : Nat} (hc : fY lo c = false) {s : ag} (h : aR (fY lo) s = true) : aZ c s:=by
 intro b hb e
 have:=iB.1 h b hb
 rw [e,hc] at this
 cases this
theorem K2 {s : ag} (h : gv s = true) : aZ 32 s∧aZ 10 s:=by
 unfold gv at h
 simp only [Bool.and_eq_true] at h
 exact ⟨Mp 32 (by decide) h.1.1,Mp 10 (by decide) h.1.1⟩
theorem KH (c : UInt8) (hc : c.toNat < 48∨57 < c.toNat) (n : Int) : aZ c (cZ n):=by
 unfold cZ
 split
 ·exact nN c hc _
 ·simp [aZ]
structure tF (o : Ob) : Prop where
 resp : dS o.resp = true
 path : gv o.path = true
 t0 : 0≤o.t
 t1 : o.t≤1000000
 names : sE o.names = true
 Mn : o.names = eR o.resp.fields
 len : o.values.length = o.names.length
 n4 : o.names.length≤4
 vals : ∀ v∈o.values,dV v = true
theorem wE {o : Ob} (h : dD o = true) : tF o:=by
 unfold dD at h
 simp only [Bool.and_eq_true,decide_eq_true_eq] at h
 have hn : o.names.length≤4:=by
  have:=h.1.1.1.2
  unfold sE at this
  simp only [Bool.and_eq_true,decide_eq_true_eq] at this
  omega
 obtain ⟨⟨⟨⟨⟨⟨h1,h2⟩,h3,h4⟩,h5⟩,h6⟩,h7⟩,h8⟩:=h
 exact ⟨h1,h2,h3,h4,h5,h6,by omega,hn,fun v hv=>iB.1 h8 v hv⟩
theorem KJ {o : Ob} (h : tF o) : aQ 32 (oF o) = [kR,o.path,cZ o.t,aL o.values.length]:=by
 unfold oF
 rw [xG _ _ (by simp [aZ,kR]),xG _ _ (K2 h.path).1,xG _ _ (KH 32 (by decide) _),FW 32 _ (nN 32 (by decide) _)]
theorem KI {o : Ob} (h : tF o) : aZ 10 (oF o):=by
 unfold oF
 rw [iu,qp,iu,qp,iu,qp]
 exact ⟨by simp [aZ,kR],by decide,(K2 h.path).2,by decide,KH 10 (by decide) _,by decide,nN 10 (by decide) _⟩
theorem Ml {o : Ob} (h : tF o) : ∀ v∈o.values,aZ 10 v:=fun v hv=>Gf 10 (by decide) (h.vals v hv)
noncomputable def wF (p : ag) (t n : Nat) (b : ag) : Option Ob:=if n≤4 then (if (cg (cT n b).2).2 = true then some ⟨p,eR (cg (cT n b).2).1.fields,(cT n b).1,(cg (cT n b).2).1,t⟩ else none) else none
noncomputable def sI (s : ag) : Option Ob:=(jJ (aQ 32 (dY s).1)).bind fun w=>(aS w.2.1).bind fun t=>(aS w.2.2).bind fun n=>wF w.1 t n (dY s).2
theorem WB {o : Ob} (h : tF o) : wF o.path o.t.toNat o.values.length (fX o.values ++ en o.resp) = some o:=by
 have h1:=L1 (en o.resp) o.values (Ml h)
 have h2 : cg (en o.resp) = (o.resp,true):=Lb (cand:=lT) (fun r h=>Fq h) h.resp
 unfold wF
 have hl:=h.len
 have h4:=h.n4
 rw [if_pos (by omega),h1]
 simp only
 rw [h2,if_pos rfl]
 simp only
 have ht : ((o.t.toNat : Nat) : Int) = o.t:=by have:=h.t0; omega
 rw [ht,← h.Mn]
theorem Wv {o : Ob} (ho : dD o = true) : sI (j0 o) = some o:=by
 have h:=wE ho
 unfold sI j0
 rw [Ia _ _ (KI h)]
 simp only
 rw [KJ h]
 have h0:=h.t0
 have h1:=h.t1
 have hl:=h.len
 have h4:=h.n4
 have hn : aS (cZ o.t) = some o.t.toNat:=by
  have e : o.t = ((o.t.toNat : Nat) : Int):=by omega
  rw [e,KG _ (by omega)]
  simp
  omega
 have hd : aS (aL o.values.length) = some o.values.length:=jZ.2 ⟨by omega,rfl⟩
 simp only [jJ,Option.bind_some,hn,hd]
 exact WB h
theorem Wu (o : Ob) : j0 o≠[]:=by simp [j0,oF,kR]
theorem KO {o : Ob} {s : ag} (hs : s≠[]) : fo o = s↔dD o = true∧j0 o = s:=by
 unfold fo
 constructor
 ·intro h
  split at h
  ·rename_i g; exact ⟨g,h⟩
  ·exact absurd h.symm hs
 ·rintro ⟨g,h⟩
  rw [if_pos g,h]
theorem KN (o : Ob) : fo o = []↔¬ dD o = true:=by
 unfold fo
 have:=Wu o
 split <;> simp_all
theorem KK {cand : ag→Option Ob} (hc : ∀ o,dD o = true→cand (j0 o) = some o) (hn : cand [] = none) (s : ag) : fm s = match cand s with
  | some o=>if fo o = s then (o,true) else (cu,false)
  | none=>(cu,false):=by
 unfold fm
 rw [A8 (cand:=cand) hc s]
 cases hs : cand s with
 | none=>rfl
 | some o =>
  simp only
  have hs0 : s≠[]:=by rintro rfl; rw [hn] at hs; cases hs
  by_cases g : fo o = s
  ·rw [if_pos ((KO hs0).1 g),if_pos g]
  ·rw [if_neg (mt (KO hs0).2 g),if_neg g]
theorem Ww : sI [] = none:=by simp [sI,dY,bP,aQ,jJ]
theorem Wx (s : ag) : fm s = match sI s with
  | some o=>if fo o = s then (o,true) else (cu,false)
  | none=>(cu,false):=KK (fun o h=>Wv h) Ww s
end M
namespace M
open Go
def e9 (s : ag) (i : Nat) (g : List ag×Nat) (b : UInt8) : (List ag×Nat) ⊕ (List ag×Nat) :=
 if b = 10∧1≤i∧s[i - 1]? = some 13∧g.2 + 1≤i then
  (if (s.take (i - 1)).drop g.2 = [] then .inr (g.1,i + 1) else .inl (g.1 ++ [(s.take (i - 1)).drop g.2],i + 1))
 else .inl g
def mq (s : ag) : (List ag×Nat) ⊕ (List ag×Nat):=cr (fun j=>e9 s (j + 1)) 0 (s.drop 1) ([],0)
def fI (s : ag) : List ag:=match mq s with | .inl g=>g.1 | .inr g=>g.1
def jl (s : ag) : Int:=match mq s with | .inl g=>-1 | .inr g=>g.2
theorem JB (s : ag) : mq s = cr (e9 s) 0 s ([],0):=by
 unfold mq
 rw [Lu (e9 s) 1]
 cases s with
 | nil=>rfl
 | cons b s =>
  rw [cr]
  have : e9 (b :: s) 0 ([],0) b = .inl ([],0):=by unfold e9; rw [if_neg (by omega)]
  rw [this]
  rfl
theorem Dx (s A l R : ag) (out : List ag) (hs : s = A ++ (l ++ (crlf ++ R))) (hl : aZ 13 l) :
  cr (e9 s) A.length (l ++ (crlf ++ R)) (out,A.length) = if l = [] then .inr (out,A.length + 2) else cr (e9 s) (A.length + l.length + 2) R (out ++ [l],A.length + l.length + 2):=by
 rw [Lv (crlf ++ R) l A.length (fun j hj=>by
  unfold e9
  rw [if_neg]
  rintro ⟨h1,h2,h3,h4⟩
  simp only at h4
  have hj0 : 0 < j:=by omega
  rw [hs,List.getElem?_append_right (by omega),List.getElem?_append_left (by omega)] at h3
  exact hl 13 (List.mem_of_getElem? h3) rfl)]
 have g1 : e9 s (A.length + l.length) (out,A.length) 13 = .inl (out,A.length):=by
  unfold e9
  rw [if_neg]
  rintro ⟨h1,_⟩
  exact absurd h1 (by decide)
 have e1 : s[A.length + l.length]? = some 13:=by
  rw [hs,List.getElem?_append_right (by omega),List.getElem?_append_right (by omega)]
  have : A.length + l.length - A.length - l.length = 0:=by omega
  rw [this]
  rfl
 have e2 : (s.take (A.length + l.length)).drop A.length = l:=by
  have : s = (A ++ l) ++ (crlf ++ R):=by rw [hs]; simp
  rw [this,show A.length + l.length = (A ++ l).length by simp,List.take_left,List.drop_left]
 have g2 : e9 s (A.length + l.length + 1) (out,A.length) 10 = if l = [] then .inr (out,A.length + l.length + 2) else .inl (out ++ [l],A.length + l.length + 2):=by
  unfold e9
  have e3 : A.length + l.length + 1 - 1 = A.length + l.length:=by omega
  rw [e3,if_pos ⟨rfl,by omega,e1,by simp only; omega⟩]
  simp only
  rw [e2]
 show cr (e9 s) (A.length + l.length) (13 :: 10 :: R) (out,A.length) = _
 rw [cr,g1]
 simp only
 rw [cr,g2]
 by_cases h : l = []
 ·subst h
  simp
 ·simp only [h,if_false]
theorem JD (s b : ag) : ∀ (ls : List ag) (A : ag) (out : List ag),ls≠[]→(∀ l∈ls,l≠[])→(∀ l∈ls,aZ 13 l)→s = A ++ (lines ls ++ (aN ++ b)) →
  cr (e9 s) A.length (lines ls ++ (aN ++ b)) (out,A.length) = .inr (out ++ ls,A.length + (lines ls).length + 4)
 | [l],A,out,_,h,h2,hs=>by
  have e : lines [l] ++ (aN ++ b) = l ++ (crlf ++ ([] ++ (crlf ++ b))):=by simp [lines,aN,crlf]
  rw [e] at hs ⊢
  have h0 : l≠[]:=h l (List.mem_cons_self ..)
  rw [Dx s A l _ out hs (h2 l (List.mem_cons_self ..)),if_neg h0]
  have e2 : A.length + l.length + 2 = (A ++ l ++ crlf).length:=by simp [crlf]; omega
  rw [e2,Dx s (A ++ l ++ crlf) [] b _ (by rw [hs]; simp) (by simp [aZ]),if_pos rfl]
  simp [crlf,lines]
  omega
 | l :: k :: ls,A,out,_,h,h2,hs=>by
  have e : lines (l :: k :: ls) ++ (aN ++ b) = l ++ (crlf ++ (lines (k :: ls) ++ (aN ++ b))):=by
   show (l ++ (crlf ++ lines (k :: ls))) ++ (aN ++ b) = _
   simp
  rw [e] at hs ⊢
  have h0 : l≠[]:=h l (List.mem_cons_self ..)
  rw [Dx s A l _ out hs (h2 l (List.mem_cons_self ..)),if_neg h0]
  have e2 : A.length + l.length + 2 = (A ++ l ++ crlf).length:=by simp [crlf]; omega
  rw [e2,JD s b (k :: ls) (A ++ l ++ crlf) (out ++ [l]) (by simp) (fun x hx=>h x (List.mem_cons_of_mem _ hx)) (fun x hx=>h2 x (List.mem_cons_of_mem _ hx)) (by rw [hs]; simp)]
  have e3 : (lines (l :: k :: ls)).length = l.length + 2 + (lines (k :: ls)).length:=by
   show (l ++ (crlf ++ lines (k :: ls))).length = _
   simp [crlf]; omega
  rw [e3]
  simp [crlf]
  omega
theorem UC (ls : List ag) (b : ag) (h0 : ls≠[]) (h : ∀ l∈ls,l≠[]) (h2 : ∀ l∈ls,aZ 13 l) : mq (lines ls ++ (aN ++ b)) = .inr (ls,(lines ls).length + 4):=by
 have:=JD (lines ls ++ (aN ++ b)) b ls [] [] h0 h h2 rfl
 rw [JB]
 simpa using this
theorem JC (s : ag) : wL wS (fI s)≤s.length∧jl s≤s.length∧-1≤jl s:=by
 have H:=Ft (go:=e9 s) (I:=fun i g=>wL wS g.1≤g.2∧g.2≤i) (O:=fun g=>wL wS g.1≤g.2∧g.2≤s.length) s.length (fun i g b hi hg=>by
  unfold e9
  by_cases hc : b = 10∧1≤i∧s[i - 1]? = some 13∧g.2 + 1≤i
  ·rw [if_pos hc]
   by_cases hl : (s.take (i - 1)).drop g.2 = []
   ·rw [if_pos hl]
    exact ⟨fun g' h=>(by cases h),fun e h=>(by cases h; simp only; omega)⟩
   ·rw [if_neg hl]
    refine ⟨fun g' h=>?_,fun e h=>(by cases h)⟩
    cases h
    simp only
    have e : wL wS (g.1 ++ [(s.take (i - 1)).drop g.2]) = wL wS g.1 + 1 + ((s.take (i - 1)).drop g.2).length:=by simp [wL,wS]; omega
    have e2 : ((s.take (i - 1)).drop g.2).length = i - 1 - g.2:=by simp; omega
    rw [e,e2]
    omega
  ·rw [if_neg hc]
   exact ⟨fun g' h=>(by cases h; omega),fun e h=>(by cases h)⟩) s 0 ([],0) (by simp) (by simp [wL])
 rw [← JB] at H
 unfold fI jl
 cases hr : mq s with
 | inl g=>have:=H.1 g hr; simp only; omega
 | inr g=>have:=H.2 g hr; simp only; omega
def nK (x : UInt8×UInt8) : Bool:=decide (x.1 = 58) && decide (x.2 = 32)
def pK (l : ag) : Option (Nat×(UInt8×UInt8)):=cE nK 0 (l.zip (l.drop 1))
def fj (l : ag) : List aF:=match pK l with
 | some (k,_)=>if l.take k = cF then [] else [⟨l.take k,l.drop (k + 2)⟩]
 | none=>[]
theorem IK {β : Type} {p : β→Bool} : ∀ (l : List β) (k i : Nat) (b : β),l[i]? = some b→p b = true→(∀ j,j < i→∀ c,l[j]? = some c→p c = false)→cE p k l = some (k + i,b)
 | [],k,i,b,h,_,_=>by simp at h
 | a :: l,k,0,b,h,hp,_=>by
  simp at h
  subst h
  simp [cE,hp]
 | a :: l,k,i + 1,b,h,hp,hj=>by
  have h0:=hj 0 (by omega) a (by simp)
  rw [List.getElem?_cons_succ] at h
  have ih:=IK l (k + 1) i b h hp fun j hj' c hc=>hj (j + 1) (by omega) c (by simpa using hc)
  simp only [cE,h0,Bool.false_eq_true,if_false,ih]
  congr 2
  omega
theorem QV (n v : ag) (h : aZ 58 n) : pK (n ++ ([58,32] ++ v)) = some (n.length,(58,32)):=by
 unfold pK
 have:=IK (p:=nK) ((n ++ ([58,32] ++ v)).zip ((n ++ ([58,32] ++ v)).drop 1)) 0 n.length (58,32) (by
  rw [List.getElem?_zip_eq_some]
  constructor
  ·rw [List.getElem?_append_right (by omega)]
   simp
  ·rw [List.getElem?_drop,List.getElem?_append_right (by omega)]
   have : 1 + n.length - n.length = 1:=by omega
   rw [this]
   rfl) (by decide) (fun j hj c hc=>by
  have h1:=(List.getElem?_zip_eq_some.1 hc).1
  rw [List.getElem?_append_left hj] at h1
  have:=h c.1 (List.mem_of_getElem? h1)
  simp [nK,this])
 rw [this]
 simp
theorem Kg {f : aF} (h : aZ 58 f.name) : fj (fG f) = if f.name = cF then [] else [f]:=by
 unfold fj fG
 rw [QV _ _ h]
 simp only
 have e1 : (f.name ++ ([58,32] ++ f.value)).take f.name.length = f.name:=List.take_left
 have e2 : (f.name ++ ([58,32] ++ f.value)).drop (f.name.length + 2) = f.value:=by
  have : f.name ++ ([58,32] ++ f.value) = (f.name ++ [58,32]) ++ f.value:=by simp
  rw [this,show f.name.length + 2 = (f.name ++ [58,32]).length by simp,List.drop_left]
 rw [e1,e2]
theorem VJ (b : ag) : fj (iq b) = []:=by
 have:=Kg (f:=⟨cF,aL b.length⟩) (by simp [aZ,cF])
 simp only [if_true] at this
 exact this
theorem VL (b : ag) (fs : List aF) (h : ∀ f∈fs,cW f.name = true∧dV f.value = true∧f.name≠cF) : (fs.map fG ++ [iq b]).flatMap fj = fs:=by
 induction fs with
 | nil=>simp [VJ]
 | cons f fs ih =>
  have hf:=h f (List.mem_cons_self ..)
  have ih:=ih fun x hx=>h x (List.mem_cons_of_mem _ hx)
  rw [List.map_cons,List.cons_append,List.flatMap_cons,Kg (B2 58 (by decide) hf.1),if_neg hf.2.2,ih]
  rfl
theorem VK (l : ag) : wL bg (fj l)≤l.length + 1:=by
 unfold fj
 cases hc : pK l with
 | none=>simp [wL]
 | some x =>
  simp only
  split
  ·simp [wL]
  ·simp [wL,bg]; omega
theorem VM (ls : List ag) : wL bg (ls.flatMap fj)≤wL wS ls:=by
 induction ls with
 | nil=>simp [wL]
 | cons l ls ih =>
  have h:=VK l
  simp only [wL,List.flatMap_cons,List.length_append,List.map_append,List.sum_append,List.length_cons,List.map_cons,List.sum_cons,wS] at *
  omega
def lU (s : ag) : Option bH:=if 0≤jl s∧fI s≠[] then (ja (aQ 32 ((fI s).headD []))).map fun w=>⟨(((aS w).getD 0 : Nat) : Int),(fI s).tail.flatMap fj,s.drop (jl s).toNat⟩ else none
theorem XZ {r : bH} (h : dS r = true) : lU (en r) = some r:=by
 obtain ⟨hs,hf,hb⟩:=Fi h
 have hl:=Ls hf
 have hne : eu r≠[]:=by simp [eu]
 have hr:=UC (eu r) r.body hne (fun l h=>(hl l h).2.2) (fun l h=>(hl l h).1)
 have e1 : fI (en r) = eu r:=by unfold fI en; rw [hr]
 have e2 : jl (en r) = (((lines (eu r)).length + 4 : Nat) : Int):=by unfold jl en; rw [hr]
 unfold lU
 rw [e1,e2,if_pos ⟨by omega,hne⟩]
 have e3 : (eu r).headD [] = iY r:=rfl
 have e4 : (eu r).tail = r.fields.map fG ++ [iq r.body]:=rfl
 have e5 : (en r).drop (((lines (eu r)).length + 4 : Nat) : Int).toNat = r.body:=by
  unfold en
  have : lines (eu r) ++ (aN ++ r.body) = (lines (eu r) ++ aN) ++ r.body:=by simp
  rw [this,show (((lines (eu r)).length + 4 : Nat) : Int).toNat = (lines (eu r) ++ aN).length by simp [aN]; omega,List.drop_left]
 rw [e3,e4,e5,VL r.body r.fields fun f hf'=>yN hf hf',Lr]
 have hn : aS (aL r.status.toNat) = some r.status.toNat:=jZ.2 ⟨by omega,rfl⟩
 simp only [ja,Option.map_some,hn,Option.getD_some]
 have : ((r.status.toNat : Nat) : Int) = r.status:=by omega
 rw [this]
theorem X0 : lU [] = none:=by
 unfold lU
 rw [if_neg]
 intro h
 have : jl [] = -1:=rfl
 omega
theorem XQ (s : ag) : cg s = match lU s with
  | some r=>if dU r = s then (r,true) else (bD,false)
  | none=>(bD,false):=by
 unfold cg
 rw [A8 (cand:=lU) (fun r h=>XZ h) s]
 cases hs : lU s with
 | none=>rfl
 | some r =>
  simp only
  have hs0 : s≠[]:=by rintro rfl; rw [X0] at hs; cases hs
  by_cases g : dU r = s
  ·rw [if_pos ((Be hs0).1 g),if_pos g]
  ·rw [if_neg (mt (Be hs0).2 g),if_neg g]
theorem X1 {s : ag} {r : bH} (h : lU s = some r) : b9 r≤2 * s.length:=by
 unfold lU at h
 split at h
 ·obtain ⟨w,hw,rfl⟩:=Option.map_eq_some_iff.1 h
  have h1:=JC s
  have h2:=VM (fI s).tail
  have h3 : wL wS (fI s).tail≤wL wS (fI s):=by cases fI s <;> simp [wL]; omega
  simp only [b9,List.length_drop]
  omega
 ·cases h
end M
namespace M
open Go
theorem Gh {α : Type} (w : α→Nat) (l : List α) (n : Nat) : wL w (l.take n)≤wL w l:=by
 have h : l = l.take n ++ l.drop n:=(List.take_append_drop n l).symm
 have h1:=congrArg List.length h
 have h2:=congrArg (fun l=>(l.map w).sum) h
 simp only [List.length_append] at h1
 simp only [List.map_append,List.sum_append] at h2
 unfold wL
 omega
end M
namespace M
open Go
end M
namespace M
open Go
def dj {α : Type} (q : α→Int) (k : α) : List α→List α
 | []=>[k]
 | x :: l=>if q k < q x then k :: x :: l else x :: dj q k l
def fy {α : Type} (q : α→Int) (l : List α) : List α:=l.foldl (fun S k=>dj q k S) []
def oI {α : Type} (q : α→Int) (l : List α) : Prop:=l.Pairwise fun a b=>q a≤q b
theorem Ab {α : Type} (q : α→Int) (k : α) : ∀ l : List α,(dj q k l).Perm (k :: l)
 | []=>List.Perm.refl _
 | x :: l=>by
  unfold dj
  split
  ·exact List.Perm.refl _
  ·exact ((Ab q k l).cons x).trans (List.Perm.swap ..)
theorem Vl {α : Type} {q : α→Int} {k x : α} {l : List α} : x∈dj q k l↔x = k∨x∈l:=by
 rw [(Ab q k l).mem_iff]; simp
theorem J1 {α : Type} (q : α→Int) (k : α) (l : List α) : (dj q k l).length = l.length + 1:=by
 rw [(Ab q k l).length_eq]; rfl
theorem J2 {α : Type} {q : α→Int} {k : α} : ∀ {l : List α},oI q l→oI q (dj q k l)
 | [],_=>by simp [dj,oI]
 | x :: l,h=>by
  unfold oI at h ⊢
  rw [List.pairwise_cons] at h
  unfold dj
  split
  ·rename_i g
   rw [List.pairwise_cons]
   refine ⟨fun y hy=>?_,List.pairwise_cons.2 h⟩
   rcases List.mem_cons.1 hy with rfl | hy
   ·omega
   ·have:=h.1 y hy; omega
  ·rename_i g
   rw [List.pairwise_cons]
   refine ⟨fun y hy=>?_,J2 h.2⟩
   rcases Vl.1 hy with rfl | hy
   ·omega
   ·exact h.1 y hy
theorem Ye {α : Type} (q : α→Int) (l : List α) (k : α) : fy q (l ++ [k]) = dj q k (fy q l):=by simp [fy]
theorem FV {α : Type} (q : α→Int) (l : List α) : (fy q l).Perm l:=by
 suffices H : ∀ (l S : List α),(l.foldl (fun S k=>dj q k S) S).Perm (S ++ l) by simpa [fy] using H l []
 intro l
 induction l with
 | nil=>intro S; simp
 | cons k l ih =>
  intro S
  rw [List.foldl_cons]
  refine (ih _).trans ?_
  refine ((Ab q k S).append_right l).trans ?_
  simpa using (List.perm_middle (a:=k) (l₁:=S) (l₂:=l)).symm
theorem JZ {α : Type} {q : α→Int} {k : α} : ∀ {l r : List α},(∀ x∈l,q x≤q k)→dj q k (l ++ r) = l ++ dj q k r
 | [],r,_=>rfl
 | x :: l,r,h=>by
  have h1:=h x (List.mem_cons_self ..)
  rw [List.cons_append,dj,if_neg (by omega),JZ fun y hy=>h y (List.mem_cons_of_mem _ hy)]
  rfl
theorem J0 {α : Type} {q : α→Int} {k : α} {l : List α} (h : ∀ x∈l,q k < q x) : dj q k l = k :: l:=by
 cases l with
 | nil=>rfl
 | cons x l=>rw [dj,if_pos (h x (List.mem_cons_self ..))]
def gM {α : Type} (q : α→Int) (k : α) (g : List α×Bool) (x : α) : List α×Bool :=
 (if g.2 = false∧q k < q x then g.1 ++ [k,x] else g.1 ++ [x],g.2 || decide (q k < q x))
def Aa {α : Type} (k : α) (g : List α×Bool) : List α:=if g.2 = true then g.1 else g.1 ++ [k]
theorem Vk {α : Type} (q : α→Int) (k : α) (l : List α) (out : List α) : Aa k (l.foldl (gM q k) (out,false)) = out ++ dj q k l:=by
 have H : ∀ (l out : List α),l.foldl (gM q k) (out,true) = (out ++ l,true):=by
  intro l
  induction l with
  | nil=>intro out; simp
  | cons x l ih=>intro out; rw [List.foldl_cons]; simp only [gM,Bool.true_eq_false,false_and,if_false,Bool.true_or]; rw [ih]; simp
 induction l generalizing out with
 | nil=>simp [Aa,dj]
 | cons x l ih =>
  rw [List.foldl_cons]
  unfold dj
  by_cases g : q k < q x
  ·simp only [gM,g,and_self,if_true,decide_true,Bool.or_true]
   rw [H]
   simp [Aa]
  ·simp only [gM,g,and_false,if_false,decide_false,Bool.or_false]
   rw [ih]
   simp
def rW {α : Type} (q : α→Int) (k : α) : List α→List α→List α
 | [],done=>k :: done
 | x :: rev,done=>if q k < q x then rW q k rev (x :: done) else (x :: rev).reverse ++ k :: done
theorem J3 {α : Type} {q : α→Int} {k : α} : ∀ (rev done : List α),oI q rev.reverse→(∀ x∈done,q k < q x)→rW q k rev done = dj q k (rev.reverse ++ done)
 | [],done,_,h=>by simp [rW,J0 h]
 | x :: rev,done,ho,h=>by
  have e : (x :: rev).reverse = rev.reverse ++ [x]:=by simp
  have ho':=ho
  rw [e] at ho'
  unfold oI at ho'
  rw [List.pairwise_append] at ho'
  unfold rW
  split
  ·rename_i g
   rw [J3 rev (x :: done) ho'.1 (fun y hy=>by
    rcases List.mem_cons.1 hy with rfl | hy
    ·exact g
    ·exact h y hy)]
   simp
  ·rename_i g
   rw [JZ (fun y hy=>by
    rw [e] at hy
    rcases List.mem_append.1 hy with hy | hy
    ·have:=ho'.2.2 y hy x (by simp); omega
    ·simp at hy; subst hy; omega),J0 h]
end M
