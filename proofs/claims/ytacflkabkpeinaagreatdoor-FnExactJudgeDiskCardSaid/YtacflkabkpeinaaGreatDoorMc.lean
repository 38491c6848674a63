/- A machine of values for loaded Go functions, sound for the calculus of calls; part 3; no conditions. -/
import Derived.Test.YtacflkabkpeinaaGreatDoorMb
import Derived.Sort.Grow
import Derived.Deep.Draws
import Derived.Lib.LaidTab
import Derived.MakeChecks
import Derived.Laws.BitsLemmas
import Derived.ChangeArms
import Derived.ChangeReads
import Derived.ChangeOld
import Derived.ChangeShapes
import Derived.SizedLaws
import Derived.RowKit
import Derived.Below
import Derived.Lib.ItoaNum
import Derived.Lib.TrimByte
import Derived.Lib.AtoiAllCases
import Derived.Lib.SplitLaws
import Derived.Lib.Join
import Derived.Lib.IndexMore
import Derived.HandedShaped
import Derived.Lib.Strings
import Derived.Lib.Slices
import Derived.Lib.Walk
import Derived.Stop.LaidErr
set_option linter.unusedSectionVars false
set_option linter.unusedVariables false
set_option linter.unusedSimpArgs false
namespace M
open Go
section
variable {C C' : bZ} {ok : FuncId→Bool}
theorem adG {C : bZ} {d : Option Nat} {s s' : ah} {f : FuncId} {xs : List X} (h : nZ d s (C f xs) = some s') : ∃ o,C f xs = some o∧∀ C' : bZ,C' f xs = some o→nZ d s (C' f xs) = some s':=by
 cases ho : C f xs with
 | none=>rw [ho] at h; cases h
 | some o=>rw [ho] at h; exact ⟨o,rfl,fun C' h'=>by rw [h']; exact h⟩
theorem adF {C : bZ} {d : Option Nat} {as : List (AV×PM)} {back : vJ} {s' : ah} {f : FuncId} {xs : List X} (h : yZ d as back (C f xs) = some s') : ∃ o,C f xs = some o∧∀ C' : bZ,C' f xs = some o→yZ d as back (C' f xs) = some s':=by
 cases ho : C f xs with
 | none=>rw [ho] at h; cases h
 | some o=>rw [ho] at h; exact ⟨o,rfl,fun C' h'=>by rw [h']; exact h⟩
theorem Lp {f : FuncId} {d : Option Nat} {as : List (AV×PM)} {fv : Option AV} {s s' : ah} (h : oI C f d as fv s = some s') :
  ∃ xs o,C f xs = some o∧∀ C' : bZ,C' f xs = some o→oI C' f d as fv s = some s':=by
 unfold oI at h ⊢
 by_cases hb : X.bare.iB (bJ as s).1 = true
 ·simp only [if_pos hb] at h ⊢
  cases hm : di as with
  | none =>
   simp only [hm] at h ⊢
   by_cases hc : sZ (bJ as s).2 fv f = true
   ·simp only [if_pos hc] at h ⊢
    obtain ⟨o,h1,h2⟩:=adG h
    exact ⟨_,o,h1,h2⟩
   ·simp only [if_neg hc] at h; cases h
  | some xn =>
   obtain ⟨x,n⟩:=xn
   simp only [hm] at h ⊢
   unfold AR at h ⊢
   split at h
   ·split at h
    ·rename_i y back h1 h2
     simp only [h1,if_pos h2]
     obtain ⟨o,h1,h2⟩:=adF h
     exact ⟨_,o,h1,h2⟩
    ·cases h
   ·cases h
 ·simp only [if_neg hb] at h; cases h
theorem L2 {o : bU} {s s' : ah} (h : ct C ok o s = some s') : (∀ C' : bZ,ct C' ok o s = some s')∨∃ f xs r,C f xs = some r∧∀ C' : bZ,C' f xs = some r→ct C' ok o s = some s':=by
 cases o with
 | call d f as =>
  obtain ⟨xs,o,h1,h2⟩:=Lp (C:=C) h
  exact .inr ⟨f,xs,o,h1,h2⟩
 | jl d x as =>
  simp only [ct] at h ⊢
  split at h
  ·rename_i f caps hf
   split at h
   ·rename_i hok
    obtain ⟨xs,o,h1,h2⟩:=Lp (C:=C) h
    refine .inr ⟨f,xs,o,h1,fun C' h'=>?_⟩
    simp only [if_pos hok]
    exact h2 C' h'
   ·cases h
  ·cases h
 | oH d f x as =>
  simp only [ct] at h ⊢
  split at h
  ·rename_i cs h1
   split at h
   ·rename_i h2
    simp only [if_pos h2]
    refine .inr ?_
    cases ho : C f (.agg (bK cs s).1 :: fy (bK cs s).2 .dead as (as.map fun _=>.dead)) with
    | none=>rw [ho] at h; cases h
    | some r=>rw [ho] at h; exact ⟨f,_,r,ho,fun C' h'=>by rw [h']; exact h⟩
   ·cases h
  ·cases h
 | _=>exact .inl fun _=>h
theorem LY {g : G} {s s' : ah} (h : eG C ok g s = some s') : (∀ C' : bZ,eG C' ok g s = some s')∨∃ f xs r,C f xs = some r∧∀ C' : bZ,C' f xs = some r→eG C' ok g s = some s':=by
 obtain ⟨gg,o⟩:=g
 cases gg with
 | none=>exact L2 h
 | some tb =>
  obtain ⟨t,b⟩:=tb
  simp only [eG] at h ⊢
  split at h
  ·rename_i v hv
   split at h
   ·rename_i h1
    simp only [hv,if_pos h1]
    exact L2 h
   ·rename_i h1
    simp only [hv,if_neg h1]
    exact .inl fun _=>h
  ·exact .inl fun _=>h
  ·cases h
def bZ.le (C C' : bZ) : Prop:=∀ f xs o,C f xs = some o→C' f xs = some o
theorem L0 (hl : C.le C') {g : G} {s s' : ah} (h : eG C ok g s = some s') : eG C' ok g s = some s':=by
 rcases LY h with h | ⟨f,xs,r,h1,h2⟩
 ·exact h _
 ·exact h2 _ (hl _ _ _ h1)
theorem Gk (hl : C.le C') : ∀ {l : List G} {s s' : ah},iY C ok l s = some s'→iY C' ok l s = some s'
 | [],_,_,h=>h
 | g :: l,s,s',h=>by
  simp only [iY] at h ⊢
  cases h1 : eG C ok g s with
  | none=>rw [h1] at h; cases h
  | some s1=>rw [h1] at h; rw [L0 hl h1]; exact Gk hl h
theorem td (hl : C.le C') : ∀ {t : DT} {s s' : ah},eD C ok t s = some s'→eD C' ok t s = some s'
 | .nil _,_,_,h=>h
 | .step _ g l,s,s',h=>by
  simp only [eD] at h ⊢
  cases h1 : eG C ok g s with
  | none=>rw [h1] at h; cases h
  | some s1=>rw [h1] at h; rw [L0 hl h1]; exact td hl h
 | .alt a b,s,s',h=>by
  simp only [eD] at h ⊢
  unfold same at h
  split at h
  ·rename_i x y hx hy
   rw [td hl hx,td hl hy]
   exact h
  ·cases h
 | .kp _ t,s,s',h=>td (t:=t) hl h
theorem EK {k k' : ah→cj} {r r' : cj} {o : Ex×ah} (h : eu k r = some o) (hr : ∀ x,r = some x→r' = some x) (hk : ∀ s,k s = some o→k' s = some o) : eu k' r' = some o:=by
 unfold eu at h
 split at h
 ·rw [hr _ rfl]; exact hk _ h
 ·rw [hr _ rfl]; exact h
 ·rw [hr _ rfl]; exact h
 ·cases h
theorem tW {f f' : ah→cj} (hf : ∀ s o,f s = some o→f' s = some o) : ∀ {n m : Nat} {s : ah} {o : Ex×ah},n≤m→iter f n s = some o→iter f' m s = some o
 | 0,_,_,_,_,h=>by cases h
 | n + 1,0,_,_,hn,_=>by omega
 | n + 1,m + 1,s,o,hn,h=>EK h (hf s) fun s' h'=>tW hf (by omega) h'
end
noncomputable def aC (f : ah→cj) (s : ah) : cj:=by
 classical exact if h : ∃ o : Ex×ah,∃ n,iter f n s = some o then some (Classical.choose h) else none
theorem yA {f : ah→cj} {s : ah} {o : Ex×ah} {n : Nat} (h : iter f n s = some o) : aC f s = some o:=by
 have hh : ∃ o : Ex×ah,∃ n,iter f n s = some o:=⟨o,n,h⟩
 unfold aC
 rw [dif_pos hh]
 obtain ⟨m,hm⟩:=Classical.choose_spec hh
 have h1:=tW (fun _ _ h=>h) (Nat.le_max_left m n) hm
 have h2:=tW (fun _ _ h=>h) (Nat.le_max_right m n) h
 rw [h1] at h2
 exact h2
theorem Is {f : ah→cj} {s : ah} {o : Ex×ah} (h : aC f s = some o) : ∃ n,iter f n s = some o:=by
 unfold aC at h
 split at h
 ·rename_i hh
  cases h
  exact Classical.choose_spec hh
 ·cases h
theorem IG {α : Type} {a b : Option α} (h1 : ∀ x,a = some x→b = some x) (h2 : ∀ x,b = some x→a = some x) : a = b:=by
 cases a with
 | none=>cases b with
  | none=>rfl
  | some y=>exact h2 y rfl
 | some x=>exact (h1 x rfl).symm
theorem dy (f : ah→cj) (s : ah) : aC f s = eu (aC f) (f s):=by
 refine IG (fun o h=>?_) fun o h=>?_
 ·obtain ⟨n,hn⟩:=Is h
  cases n with
  | zero=>cases hn
  | succ n=>exact EK hn (fun _ h=>h) fun s' h'=>yA h'
 ·unfold eu at h
  split at h
  ·rename_i s' hs
   obtain ⟨n,hn⟩:=Is h
   refine yA (n:=n + 1) ?_
   simp only [iter,hs,eu]; exact hn
  ·rename_i hs; refine yA (n:=1) ?_; simp only [iter,hs,eu]; exact h
  ·rename_i hs; refine yA (n:=1) ?_; simp only [iter,hs,eu]; exact h
  ·cases h
noncomputable def ai (C : bZ) (ok : FuncId→Bool) : A→ah→cj
 | .skip,s=>some (.normal,s)
 | .ret,s=>some (.ret,s)
 | .exit id,s=>some (.exit id,s)
 | .ops l,s=>gK (iY C ok l s)
 | .draw t,s=>gK (eD C ok t s)
 | .seq a b,s=>eu (ai C ok b) (ai C ok a s)
 | .cond c a b,s=>match ax s c with
  | .bool t=>if t = true then ai C ok a s else ai C ok b s
  | _=>none
 | .block id b,s=>jF id (ai C ok b s)
 | .loop b,s=>aC (ai C ok b) s
 | .pk ks b,s=>jW ks (ai C ok b s)
theorem Dx {a b : Option ah} (h : ∀ s,a = some s→b = some s) {o : Ex×ah} (ho : gK a = some o) : gK b = some o:=by
 unfold gK at ho
 split at ho
 ·rw [h _ rfl]; exact ho
 ·cases ho
theorem KM {id : Nat} {a b : cj} (h : ∀ s,a = some s→b = some s) {o : Ex×ah} (ho : jF id a = some o) : jF id b = some o:=by
 cases a with
 | none=>cases ho
 | some x=>rw [h _ rfl]; exact ho
theorem OT {ks : List Nat} {a b : cj} (h : ∀ s,a = some s→b = some s) {o : Ex×ah} (ho : jW ks a = some o) : jW ks b = some o:=by
 cases a with
 | none=>cases ho
 | some x=>rw [h _ rfl]; exact ho
theorem V6 {C C' : bZ} {ok : FuncId→Bool} (hl : C.le C') {N : Nat} : ∀ {t : A} {s : ah} {o : Ex×ah},eA C ok N t s = some o→ai C' ok t s = some o:=by
 intro t
 induction t with
 | skip=>intro s o h; exact h
 | ret=>intro s o h; exact h
 | exit id=>intro s o h; exact h
 | ops l=>intro s o h; exact Dx (fun s' h'=>Gk hl h') h
 | draw l=>intro s o h; exact Dx (fun s' h'=>td hl h') h
 | seq a b gJ jc=>intro s o h; exact EK h (fun x hx=>gJ hx) fun s' h'=>jc h'
 | cond c a b gJ jc =>
  intro s o h
  simp only [eA] at h
  simp only [ai]
  split at h
  ·rename_i t ht
   try rw [ht]
   cases t with
   | true=>exact gJ h
   | false=>exact jc h
  ·cases h
 | block id b ih=>intro s o h; exact KM (fun x hx=>ih hx) h
 | loop b ih=>intro s o h; exact yA (tW (fun s o h=>ih h) (Nat.le_refl _) h)
 | pk ks b ih=>intro s o h; exact OT (fun x hx=>ih hx) h
theorem V7 {C C' : bZ} {ok : FuncId→Bool} (hl : C.le C') {N N' : Nat} (hN : N≤N') : ∀ {t : A} {s : ah} {o : Ex×ah},eA C ok N t s = some o→eA C' ok N' t s = some o:=by
 intro t
 induction t with
 | skip=>intro s o h; exact h
 | ret=>intro s o h; exact h
 | exit id=>intro s o h; exact h
 | ops l=>intro s o h; exact Dx (fun s' h'=>Gk hl h') h
 | draw l=>intro s o h; exact Dx (fun s' h'=>td hl h') h
 | seq a b gJ jc=>intro s o h; exact EK h (fun x hx=>gJ hx) fun s' h'=>jc h'
 | cond c a b gJ jc =>
  intro s o h
  simp only [eA] at h ⊢
  split at h
  ·rename_i t ht
   cases t with
   | true=>exact gJ h
   | false=>exact jc h
  ·cases h
 | block id b ih=>intro s o h; exact KM (fun x hx=>ih hx) h
 | loop b ih=>intro s o h; exact tW (fun s o h=>ih h) hN h
 | pk ks b ih=>intro s o h; exact OT (fun x hx=>ih hx) h
theorem Bf {L : bZ} {T : gC} : ∀ {n m : Nat},n≤m→(exec L T n).le (exec L T m)
 | 0,_,_,_,_,_,h=>by cases h
 | n + 1,0,hn,_,_,_,_=>by omega
 | n + 1,m + 1,hn,f,xs,o,h=>by
  have hnm : n≤m:=by omega
  simp only [exec] at h ⊢
  split at h
  ·rename_i F hF
   unfold eF at h ⊢
   split at h
   ·rename_i hl
    rw [if_pos hl]
    cases hr : eA (exec L T n) (aj T) n F.body (kU xs) with
    | none=>rw [hr] at h; cases h
    | some r=>rw [hr] at h; rw [V7 (Bf hnm) hnm hr]; exact h
   ·cases h
  ·exact h
noncomputable def ev (L : bZ) (T : gC) : bZ:=fun f xs=>by
 classical exact if h : ∃ o : Out,∃ n,exec L T n f xs = some o then some (Classical.choose h) else none
theorem Gm {L : bZ} {T : gC} {f : FuncId} {xs : List X} {o : Out} {n : Nat} (h : exec L T n f xs = some o) : ev L T f xs = some o:=by
 have hh : ∃ o : Out,∃ n,exec L T n f xs = some o:=⟨o,n,h⟩
 unfold ev
 rw [dif_pos hh]
 obtain ⟨m,hm⟩:=Classical.choose_spec hh
 have h1:=Bf (Nat.le_max_left m n) f xs _ hm
 have h2:=Bf (Nat.le_max_right m n) f xs _ h
 rw [h1] at h2
 exact h2
theorem Bd {L : bZ} {T : gC} {f : FuncId} {xs : List X} {o : Out} (h : ev L T f xs = some o) : ∃ n,exec L T n f xs = some o:=by
 unfold ev at h
 split at h
 ·rename_i hh
  cases h
  exact Classical.choose_spec hh
 ·cases h
theorem We (L : bZ) (T : gC) (n : Nat) : (exec L T n).le (ev L T):=fun _ _ _ h=>Gm h
theorem akj [Bs] {P : Program} {L : bZ} {T : gC} (hL : L.Sound P) (hT : T.Ok P) : (ev L T).Sound P:=fun f xs o h=>by
 obtain ⟨n,hn⟩:=Bd h
 exact Mb hL hT n f xs o hn
section
variable {L : bZ} {T : gC}
theorem LZ {g : G} {s s' : ah} (h : eG (ev L T) (aj T) g s = some s') : ∃ n,∀ m,n≤m→eG (exec L T m) (aj T) g s = some s':=by
 rcases LY h with h | ⟨f,xs,r,h1,h2⟩
 ·exact ⟨0,fun m _=>h _⟩
 ·obtain ⟨n,hn⟩:=Bd h1
  exact ⟨n,fun m hm=>h2 _ (Bf hm f xs r hn)⟩
theorem L4 : ∀ {l : List G} {s s' : ah},iY (ev L T) (aj T) l s = some s'→∃ n,∀ m,n≤m→iY (exec L T m) (aj T) l s = some s'
 | [],s,s',h=>⟨0,fun m _=>h⟩
 | g :: l,s,s',h=>by
  simp only [iY] at h ⊢
  cases h1 : eG (ev L T) (aj T) g s with
  | none=>rw [h1] at h; cases h
  | some s1 =>
   rw [h1] at h
   obtain ⟨n1,ic⟩:=LZ h1
   obtain ⟨n2,hn2⟩:=L4 (l:=l) h
   exact ⟨max n1 n2,fun m hm=>by rw [ic m (by omega)]; exact hn2 m (by omega)⟩
theorem wk : ∀ {l : DT} {s s' : ah},eD (ev L T) (aj T) l s = some s'→∃ n,∀ m,n≤m→eD (exec L T m) (aj T) l s = some s'
 | .nil _,s,s',h=>⟨0,fun m _=>h⟩
 | .step _ g l,s,s',h=>by
  simp only [eD] at h ⊢
  cases h1 : eG (ev L T) (aj T) g s with
  | none=>rw [h1] at h; cases h
  | some s1 =>
   rw [h1] at h
   obtain ⟨n1,ic⟩:=LZ h1
   obtain ⟨n2,hn2⟩:=wk (l:=l) h
   exact ⟨max n1 n2,fun m hm=>by rw [ic m (by omega)]; exact hn2 m (by omega)⟩
 | .alt a b,s,s',h=>by
  simp only [eD] at h ⊢
  unfold same at h
  split at h
  ·rename_i x y hx hy
   obtain ⟨n1,ic⟩:=wk hx
   obtain ⟨n2,hn2⟩:=wk hy
   exact ⟨max n1 n2,fun m hm=>by rw [ic m (by omega),hn2 m (by omega)]; exact h⟩
  ·cases h
 | .kp _ t,s,s',h=>wk (l:=t) h
theorem On {a : Option ah} {b : Nat→Option ah} (h : ∀ s,a = some s→∃ n,∀ m,n≤m→b m = some s) {o : Ex×ah} (ho : gK a = some o) : ∃ n,∀ m,n≤m→gK (b m) = some o:=by
 cases a with
 | none=>cases ho
 | some s =>
  obtain ⟨n,hn⟩:=h s rfl
  exact ⟨n,fun m hm=>by rw [hn m hm]; exact ho⟩
theorem Wc : ∀ {t : A} {s : ah} {o : Ex×ah},ai (ev L T) (aj T) t s = some o→∃ n,∀ m,n≤m→eA (exec L T m) (aj T) m t s = some o:=by
 intro t
 induction t with
 | skip=>intro s o h; exact ⟨0,fun m _=>h⟩
 | ret=>intro s o h; exact ⟨0,fun m _=>h⟩
 | exit id=>intro s o h; exact ⟨0,fun m _=>h⟩
 | ops l=>intro s o h; exact On (fun s h=>L4 h) h
 | draw l=>intro s o h; exact On (fun s h=>wk h) h
 | seq a b gJ jc =>
  intro s o h
  simp only [ai] at h
  simp only [eA]
  cases hr : ai (ev L T) (aj T) a s with
  | none=>rw [hr] at h; cases h
  | some r =>
   rw [hr] at h
   obtain ⟨n1,ic⟩:=gJ hr
   obtain ⟨e,s1⟩:=r
   cases e with
   | normal =>
    obtain ⟨n2,hn2⟩:=jc (s:=s1) h
    exact ⟨max n1 n2,fun m hm=>by rw [ic m (by omega)]; exact hn2 m (by omega)⟩
   | exit i=>exact ⟨n1,fun m hm=>by rw [ic m hm]; exact h⟩
   | ret=>exact ⟨n1,fun m hm=>by rw [ic m hm]; exact h⟩
 | cond c a b gJ jc =>
  intro s o h
  simp only [ai] at h
  simp only [eA]
  split at h
  ·rename_i t ht
   try rw [ht]
   cases t with
   | true=>exact gJ h
   | false=>exact jc h
  ·cases h
 | block id b ih =>
  intro s o h
  simp only [ai] at h
  simp only [eA]
  cases hr : ai (ev L T) (aj T) b s with
  | none=>rw [hr] at h; cases h
  | some r =>
   rw [hr] at h
   obtain ⟨n1,ic⟩:=ih hr
   exact ⟨n1,fun m hm=>by rw [ic m hm]; exact h⟩
 | pk ks b ih =>
  intro s o h
  simp only [ai] at h
  simp only [eA]
  cases hr : ai (ev L T) (aj T) b s with
  | none=>rw [hr] at h; cases h
  | some r =>
   rw [hr] at h
   obtain ⟨n1,ic⟩:=ih hr
   exact ⟨n1,fun m hm=>by rw [ic m hm]; exact h⟩
 | loop b ih =>
  intro s o h
  simp only [ai] at h
  obtain ⟨n,hn⟩:=Is h
  have go : ∀ (n : Nat) (s : ah),iter (ai (ev L T) (aj T) b) n s = some o→∃ k,∀ m,k≤m→iter (eA (exec L T m) (aj T) m b) n s = some o:=by
   intro n
   induction n with
   | zero=>intro s h; cases h
   | succ n ihn =>
    intro s h
    simp only [iter] at h ⊢
    cases hr : ai (ev L T) (aj T) b s with
    | none=>rw [hr] at h; cases h
    | some r =>
     rw [hr] at h
     obtain ⟨n1,ic⟩:=ih hr
     obtain ⟨e,s1⟩:=r
     cases e with
     | normal =>
      obtain ⟨n2,hn2⟩:=ihn s1 h
      exact ⟨max n1 n2,fun m hm=>by rw [ic m (by omega)]; exact hn2 m (by omega)⟩
     | exit i=>exact ⟨n1,fun m hm=>by rw [ic m hm]; exact h⟩
     | ret=>exact ⟨n1,fun m hm=>by rw [ic m hm]; exact h⟩
  obtain ⟨k,hk⟩:=go n s hn
  refine ⟨max k n,fun m hm=>?_⟩
  simp only [eA]
  exact tW (fun _ _ h=>h) (by omega) (hk m (by omega))
noncomputable def Bc (L : bZ) (T : gC) (F : Fn) (xs : List X) : Option Out :=
 if xs.length = F.n then fin F (ai (ev L T) (aj T) F.body (kU xs)) else none
theorem Wd {f : FuncId} {F : Fn} (hF : T f = some F) (xs : List X) : ev L T f xs = Bc L T F xs:=by
 refine IG (fun o h=>?_) fun o h=>?_
 ·obtain ⟨n,hn⟩:=Bd h
  cases n with
  | zero=>cases hn
  | succ n =>
   simp only [exec,hF] at hn
   unfold eF at hn
   unfold Bc
   split at hn
   ·rename_i hl
    rw [if_pos hl]
    cases hr : eA (exec L T n) (aj T) n F.body (kU xs) with
    | none=>rw [hr] at hn; cases hn
    | some r=>rw [hr] at hn; rw [V6 (We L T n) hr]; exact hn
   ·cases hn
 ·unfold Bc at h
  split at h
  ·rename_i hl
   cases hr : ai (ev L T) (aj T) F.body (kU xs) with
   | none=>rw [hr] at h; cases h
   | some r =>
    rw [hr] at h
    obtain ⟨n,hn⟩:=Wc hr
    refine Gm (n:=n + 1) ?_
    simp only [exec,hF,eF,if_pos hl,hn n (Nat.le_refl n)]
    exact h
  ·cases h
theorem kZ {f : FuncId} (hF : T f = none) (xs : List X) : ev L T f xs = L f xs:=by
 refine IG (fun o h=>?_) fun o h=>?_
 ·obtain ⟨n,hn⟩:=Bd h
  cases n with
  | zero=>cases hn
  | succ n=>simpa only [exec,hF] using hn
 ·refine Gm (n:=1) ?_
  simpa only [exec,hF] using h
end
end M
namespace M
open Go
section
variable {C : bZ} {ok : FuncId→Bool} {T : gC}
@[simp] theorem aki (s : ah) : ai C ok .skip s = some (.normal,s):=rfl
@[simp] theorem akg (s : ah) : ai C ok .ret s = some (.ret,s):=rfl
@[simp] theorem akc (i : Nat) (s : ah) : ai C ok (.exit i) s = some (.exit i,s):=rfl
@[simp] theorem ake (l : List G) (s : ah) : ai C ok (.ops l) s = gK (iY C ok l s):=rfl
@[simp] theorem akb (t : DT) (s : ah) : ai C ok (.draw t) s = gK (eD C ok t s):=rfl
@[simp] theorem akh (a b : A) (s : ah) : ai C ok (.seq a b) s = eu (ai C ok b) (ai C ok a s):=rfl
@[simp] theorem aj9 (i : Nat) (b : A) (s : ah) : ai C ok (.block i b) s = jF i (ai C ok b s):=rfl
@[simp] theorem akd (b : A) (s : ah) : ai C ok (.loop b) s = aC (ai C ok b) s:=rfl
@[simp] theorem akf (ks : List Nat) (b : A) (s : ah) : ai C ok (.pk ks b) s = jW ks (ai C ok b s):=rfl
noncomputable def LK (C : bZ) (ok : FuncId→Bool) (a b : A) (s : ah) : X→cj
 | .bool t=>if t = true then ai C ok a s else ai C ok b s
 | _=>none
@[simp] theorem aka (c : AV) (a b : A) (s : ah) : ai C ok (.cond c a b) s = LK C ok a b s (ax s c):=by
 simp only [ai]; cases ax s c <;> rfl
@[simp] theorem ajG (a b : A) (s : ah) (t : Bool) : LK C ok a b s (.bool t) = if t = true then ai C ok a s else ai C ok b s:=rfl
@[simp] theorem aj7 (s : ah) : iY C ok [] s = some s:=rfl
@[simp] theorem aj6 (g : G) (l : List G) (s : ah) : iY C ok (g :: l) s = (eG C ok g s).bind (iY C ok l):=rfl
@[simp] theorem aj2 (ks : List Nat) (s : ah) : eD C ok (.nil ks) s = some (keep ks s):=rfl
@[simp] theorem aj3 (i : Nat) (g : G) (t : DT) (s : ah) : eD C ok (.step i g t) s = (eG C ok g s).bind (eD C ok t):=rfl
@[simp] theorem aj0 (a b : DT) (s : ah) : eD C ok (.alt a b) s = same (eD C ok a s) (eD C ok b s):=rfl
@[simp] theorem aj1 (ks : List Nat) (t : DT) (s : ah) : eD C ok (.kp ks t) s = eD C ok t (keep ks s):=rfl
@[simp] theorem alx (s : ah) : same (some s) (some s) = some s:=by
 have : oR s s = true:=by
  induction s with
  | nil=>rfl
  | cons a l ih=>obtain ⟨k,x⟩:=a; simp [oR,X.Ma,ih]
 simp [same,this]
@[simp] theorem aiV (c : Prop) [Decidable c] (a b : Option ah) (f : ah→Option ah) : (if c then a else b).bind f = if c then a.bind f else b.bind f:=by split <;> rfl
def Bv (C : bZ) (ok : FuncId→Bool) (o : bU) (t : Nat) (b : Bool) (s : ah) : X→Option ah
 | .bool v=>if v = b then ct C ok o ((t,.bool b) :: s) else some (eR o.dst (.au []) ((t,.bool (!b)) :: s))
 | .au []=>some (eR o.dst (.au []) s)
 | _=>none
@[simp] theorem aj4 (o : bU) (s : ah) : eG C ok ⟨none,o⟩ s = ct C ok o s:=rfl
@[simp] theorem aj5 (t : Nat) (b : Bool) (o : bU) (s : ah) : eG C ok ⟨some (t,b),o⟩ s = Bv C ok o t b s (get s t):=by
 simp only [eG]
 split <;> simp_all [Bv]
@[simp] theorem akv (o : bU) (t : Nat) (b v : Bool) (s : ah) : Bv C ok o t b s (.bool v) = if v = b then ct C ok o ((t,.bool b) :: s) else some (eR o.dst (.au []) ((t,.bool (!b)) :: s)):=rfl
@[simp] theorem akw (o : bU) (t : Nat) (b : Bool) (s : ah) : Bv C ok o t b s (.au []) = some (eR o.dst (.au []) s):=rfl
@[simp] theorem alg (s : ah) : gK (some s) = some (.normal,s):=rfl
@[simp] theorem alf : gK none = none:=rfl
@[simp] theorem ale (c : Prop) [Decidable c] (a b : Option ah) : gK (if c then a else b) = if c then gK a else gK b:=by split <;> rfl
@[simp] theorem aeC (k : ah→cj) (s : ah) : eu k (some (.normal,s)) = k s:=rfl
@[simp] theorem alz (k : ah→cj) (i : Nat) (s : ah) : eu k (some (.exit i,s)) = some (.exit i,s):=rfl
@[simp] theorem alC (k : ah→cj) (s : ah) : eu k (some (.ret,s)) = some (.ret,s):=rfl
@[simp] theorem alB (k : ah→cj) : eu k none = none:=rfl
@[simp] theorem alA (k : ah→cj) (c : Prop) [Decidable c] (a b : cj) : eu k (if c then a else b) = if c then eu k a else eu k b:=by split <;> rfl
@[simp] theorem aiZ (i : Nat) (s : ah) : jF i (some (.normal,s)) = some (.normal,s):=rfl
@[simp] theorem aiW (i j : Nat) (s : ah) : jF i (some (.exit j,s)) = if j = i then some (.normal,s) else some (.exit j,s):=rfl
@[simp] theorem ai0 (i : Nat) (s : ah) : jF i (some (.ret,s)) = some (.ret,s):=rfl
@[simp] theorem aiY (i : Nat) : jF i none = none:=rfl
@[simp] theorem aiX (i : Nat) (c : Prop) [Decidable c] (a b : cj) : jF i (if c then a else b) = if c then jF i a else jF i b:=by split <;> rfl
@[simp] theorem alq (ks : List Nat) (s : ah) : jW ks (some (.normal,s)) = some (.normal,keep ks s):=rfl
@[simp] theorem aln (ks : List Nat) (i : Nat) (s : ah) : jW ks (some (.exit i,s)) = some (.exit i,s):=rfl
@[simp] theorem alr (ks : List Nat) (s : ah) : jW ks (some (.ret,s)) = some (.ret,s):=rfl
@[simp] theorem alp (ks : List Nat) : jW ks none = none:=rfl
@[simp] theorem alo (ks : List Nat) (c : Prop) [Decidable c] (a b : cj) : jW ks (if c then a else b) = if c then jW ks a else jW ks b:=by split <;> rfl
def qP (rs : List RV) (n : Nat) : cj→Option Out
 | some (.exit _,_)=>none
 | some (_,s)=>if X.clean.ck (dm rs s).1 = true∧(dm rs s).1.any X.kE = false then some (rS (dm rs s).1,nY 0 n (dm rs s).2) else none
 | none=>none
def Gr (rs : List RV) (n : Nat) (s : ah) : Option Out:=if X.clean.ck (dm rs s).1 = true∧(dm rs s).1.any X.kE = false then some (rS (dm rs s).1,nY 0 n (dm rs s).2) else none
theorem aq {L : bZ} {T : gC} {f : FuncId} {b : A} {rs : List RV} {n : Nat} (h : T f = some ⟨b,rs,n⟩) {xs : List X} (hl : xs.length = n) : ev L T f xs = qP rs n (ai (ev L T) (aj T) b (kU xs)):=by
 rw [Wd h]
 unfold Bc
 rw [if_pos hl]
 rfl
@[simp] theorem aku (rs : List RV) (n : Nat) (s : ah) : qP rs n (some (.ret,s)) = Gr rs n s:=rfl
@[simp] theorem akt (rs : List RV) (n : Nat) (s : ah) : qP rs n (some (.normal,s)) = Gr rs n s:=rfl
@[simp] theorem aks (rs : List RV) (n : Nat) : qP rs n none = none:=rfl
@[simp] theorem akr (rs : List RV) (n : Nat) (c : Prop) [Decidable c] (a b : cj) : qP rs n (if c then a else b) = if c then qP rs n a else qP rs n b:=by split <;> rfl
@[simp] theorem alv (d : Option Nat) (s : ah) (r : X) (ps : List X) : nZ d s (some (r,ps)) = some (eR d r s):=rfl
@[simp] theorem alu (d : Option Nat) (s : ah) : nZ d s none = none:=rfl
@[simp] theorem als (d : Option Nat) (s : ah) (c : Prop) [Decidable c] (a b : Option Out) : nZ d s (if c then a else b) = if c then nZ d s a else nZ d s b:=by split <;> rfl
end
attribute [simp] Gr ct kU z6 z7 dm nY post rS X.kE X.clean X.clean.ck X.clean.bw keep EP AM oI sZ
end M
namespace M
open Go
def vZ (z bytes : Nat) : A:=(.seq (.pk [0] (.ops [⟨none,.aP 2 .aO (.k (.row .own z []))⟩])) (.seq (.seq (.pk [0,4] (.ops [⟨none,.mv 3 (.t 0)⟩,⟨none,.p6 4 false (.t 3)⟩])) (.pk [0] (.cond (.t 4) (.seq (.pk [2,7] (.ops [⟨none,.aP 2 .aO (.k (.row .own z []))⟩])) .ret) .skip))) (.seq (.pk [2,7] (.ops [⟨none,.lit 5 .mv z []⟩,⟨none,.mv 6 (.t 0)⟩,⟨none,.app 7 .al z bytes (.t 5) (.t 6)⟩,⟨none,.aP 2 .aO (.t 7)⟩])) .ret)))
theorem LC : ∀ {rows : List (List X)},gy rows = true→X.clean.bw rows = true
 | [],_=>rfl
 | e :: l,h=>by
  simp only [gy,Bool.and_eq_true,List.all_eq_true] at h
  have h1 : X.clean.ck e = true:=by
   have h2:=h.1
   clear h
   induction e with
   | nil=>rfl
   | cons x e ih =>
    have hx:=h2 x (List.mem_cons_self ..)
    have he:=ih fun y hy=>h2 y (List.mem_cons_of_mem _ hy)
    cases x <;> simp_all [scalar,X.clean.ck,X.clean]
  simp only [X.clean.bw,h1,LC h.2,Bool.and_self]
theorem VB [Bs] {P : Program} {f : FuncId} {z bytes : Nat} (hT : Told P f (vZ z bytes) [.t 2] 1) {rows : List (List X)} (h1 : rows.length * bytes≤140737488355328) (h2 : gy rows = true) (h4 : kK rows = true∨rows = []) :
  AC P f [.row .af z rows] fun r ps=>r = .row .own z rows∧ps = [.dead]:=by
 refine hT.ac rfl ?_
 have h3:=JC h2
 have h5:=LC h2
 simp [vZ,dN,jj,mY,aN,base,Ends,h1,h3,h5]
 intro h6
 rcases h4 with h4 | h4
 ·rw [h4] at h6; cases h6
 ·subst h4; simp
def iX (f0 z bytes : Nat) : bZ:=fun f xs=>if f = f0 then (match xs with
 | [.row .af z' rows]=>if z' = z∧rows.length * bytes≤140737488355328∧gy rows = true∧(kK rows = true∨rows = []) then some (.row .own z rows,[.dead]) else none
 | _=>none) else none
theorem LD [Bs] {P : Program} {f0 z bytes : Nat} (hT : Told P f0 (vZ z bytes) [.t 2] 1) : (iX f0 z bytes).Sound P:=fun f xs o h=>by
 unfold iX at h
 split at h
 ·rename_i hf
  subst hf
  split at h
  ·split at h
   ·rename_i hc
    obtain ⟨rfl,c1,c2,c3⟩:=hc
    cases h
    exact VB hT c1 c2 c3
   ·cases h
  ·cases h
 ·cases h
def fh (L L' : bZ) : bZ:=fun f xs=>match L f xs with
 | some o=>some o
 | none=>L' f xs
theorem nV [Bs] {P : Program} {L L' : bZ} (h : L.Sound P) (h' : L'.Sound P) : (fh L L').Sound P:=fun f xs o e=>by
 unfold fh at e
 split at e
 ·rename_i o' e'
  cases e
  exact h f xs _ e'
 ·exact h' f xs _ e
end M
namespace M
open Go
def sv : X→Value
 | .int k n=>.int k n
 | .bool b=>.bool b
 | .str s=>.string s
 | _=>undef
theorem aet {c : C} (h : scalar c.er = true) : c.val = sv c.er:=by
 cases c <;> first | rfl | (simp [C.er,scalar] at h)
def Aa : X→Bool
 | .str s=>decide (s.size≤9223372036854775807)
 | x=>scalar x
def iP (f0 : FuncId) (g : List X→Option X) : bZ:=fun f xs=>if f = f0 then (match g xs with
 | some r=>if xs.all scalar = true∧Aa r = true then some (r,xs.map fun _=>.dead) else none
 | none=>none) else none
end M
namespace M
open Go Go.Sort
def l5 [B : Bs] (w : World) : Prop:=∀ b,b < B.W0.heap.size→w.heap[b]? = B.W0.heap[b]?
theorem SM [Bs] {P : Program} {f : FuncId} {xs : List X} {r : X} (hx : ∀ x∈xs,scalar x = true) (hr : Aa r = true)
  (h : ∀ w,l5 w→Calls P f (xs.map sv).toArray w fun e w'=>e = .returned (sv r)∧∃ k os,w' = grow (w.drewN k) os) : AC P f xs fun r' ps=>r' = r∧ps = xs.map fun _=>.dead:=by
 intro w zl zb cs e hA kz
 have hv : cs.map C.val = xs.map sv:=by
  rw [← e,List.map_map]
  exact List.map_congr_left fun c hc=>aet (hx _ (e ▸ List.mem_map_of_mem hc))
 rw [hv]
 refine (h w fun b hb=>(kz b hb).1).mono fun e' w' ⟨he,k,os,hw⟩=>?_
 subst hw
 have hsz : w.heap.size≤(grow (w.drewN k) os).heap.size:=by simp [grow,World.drewN]
 have hs : ∃ c : C,c.er = r∧c.val = sv r∧c.ok (grow (w.drewN k) os) (Zf zl fun _ _=>False)∧c.bare∧∀ b k,¬ c.fp b k:=by
  cases r with
  | int k n=>exact ⟨.int k n,rfl,rfl,trivial,trivial,fun _ _ h=>h⟩
  | bool b=>exact ⟨.bool b,rfl,rfl,trivial,trivial,fun _ _ h=>h⟩
  | str s=>exact ⟨.str s,rfl,rfl,by simp [Aa] at hr; exact hr,trivial,fun _ _ h=>h⟩
  | _=>simp [Aa,scalar] at hr
 obtain ⟨c,c1,c2,c3,c4,c5⟩:=hs
 have GS : Ext (fun b k=>∃ x∈cs,x.fp b k) w (grow (w.drewN k) os):=⟨rfl,rfl,rfl,hsz,fun b hb=>.inl (by
  show (w.heap ++ os)[b]? = w.heap[b]?
  exact Array.getElem?_append_left hb)⟩
 refine ⟨c,cs.map fun x=>.dead x.val,zl,⟨by rw [he,c2],by rw [List.map_map]; rfl,GS,⟨fun x hx'=>?_,fun x hx'=>?_,fun x hx' b k hf=>?_,fun b k hz=>Nat.lt_of_lt_of_le (hA.cm b k (hz.imp id fun h=>h.elim)) hsz,?_⟩,fun x hx' b k hf=>?_,fun _ _ h=>h,fun _ _ h=>.inl h⟩,c1,?_⟩
 ·rcases List.mem_cons.1 hx' with rfl | hx'
  ·exact c3
  ·obtain ⟨y,_,rfl⟩:=List.mem_map.1 hx'; trivial
 ·rcases List.mem_cons.1 hx' with rfl | hx'
  ·exact c4
  ·obtain ⟨y,_,rfl⟩:=List.mem_map.1 hx'; trivial
 ·rcases List.mem_cons.1 hx' with rfl | hx'
  ·exact (c5 b k hf).elim
  ·obtain ⟨y,_,rfl⟩:=List.mem_map.1 hx'; exact hf.elim
 ·refine List.pairwise_cons.2 ⟨fun x _ b k hf=>(c5 b k hf).elim,?_⟩
  refine List.pairwise_iff_getElem.2 fun i j hi hj _ b k hf=>?_
  obtain ⟨y,_,hy⟩:=List.mem_map.1 (List.getElem_mem hi)
  rw [← hy] at hf
  exact hf.elim
 ·rcases List.mem_cons.1 hx' with rfl | hx'
  ·exact (c5 b k hf).elim
  ·obtain ⟨y,_,rfl⟩:=List.mem_map.1 hx'; exact hf.elim
 ·rw [← e]
  simp [List.map_map,Function.comp_def,C.er]
theorem ZX [Bs] {P : Program} {f0 : FuncId} {g : List X→Option X} (h : ∀ xs r,g xs = some r→∀ w,l5 w→Calls P f0 (xs.map sv).toArray w fun e w'=>e = .returned (sv r)∧∃ k os,w' = grow (w.drewN k) os) : (iP f0 g).Sound P:=fun f xs o e=>by
 unfold iP at e
 split at e
 ·rename_i hf
  subst hf
  split at e
  ·rename_i r hr
   split at e
   ·rename_i hc
    cases e
    exact SM (List.all_eq_true.1 hc.1) hc.2 (h xs r hr)
   ·cases e
  ·cases e
 ·cases e
theorem TabIs.same [B : Bs] {P : Program} {w : World} {n : String} {k : IntKind} {zs : List Int} (h : Lib.TabIs P B.W0 n k zs) (hw : l5 w) : Lib.TabIs P w n k zs:=by
 unfold Lib.TabIs World.var? at h ⊢
 cases hg : P.globalNamed n with
 | none=>rw [hg] at h; cases h
 | some g =>
  rw [hg] at h
  simp only [Option.bind_some] at h ⊢
  have hlt : g < B.W0.heap.size:=by
   rcases Nat.lt_or_ge g B.W0.heap.size with h' | h'
   ·exact h'
   ·rw [Array.getElem?_eq_none h'] at h; cases h
  rw [hw g hlt]
  exact h
theorem aex {P : Program} {W : World} {name : String} {k : IntKind} {zs : List Int} {g : Nat} {t e : TypeId} {n : Nat}
  (hg : P.globalNamed name = some g) (hty : (P.globals[g]?).map (·.type) = some t) (ht : P.underlying t = some (.array n e)) (he : P.underlying e = some (.int k)) (hce : P.cellsOf e = 1) (hct : P.cellsOf t = n) :
  ∀ {l : List (String×DataW Unit)} {ps : List MemPlace},DataW.LaidVars P W l ps→(name,Lib.tabData k zs)∈l→Lib.TabIs P W name k zs
 | [],_,_,h=>by cases h
 | (nm,d) :: l,ps,h,hm=>by
  obtain ⟨g',t',cs,fuel,p,q,hg',ht',hvar,hd,hr,_⟩:=h
  rcases List.mem_cons.1 hm with hm | hm
  ·obtain ⟨rfl,rfl⟩:=Prod.mk.inj hm
   obtain rfl:=Option.some.inj (hg.symm.trans hg')
   obtain rfl:=Option.some.inj (hty.symm.trans ht')
   unfold Lib.TabIs
   rw [hvar,← Lib.cells_of_tab ht he hce hct hd]
  ·exact aex hg hty ht he hce hct hr hm
end M
namespace M
open Go
def lv : Ex×ah→cj
 | (.normal,_)=>none
 | (.ret,s)=>some (.ret,s)
 | (.exit i,s)=>some (.exit i,s)
def kM {β γ : Type} (go : β→γ→γ ⊕ (Ex×ah)) : List β→γ→γ ⊕ (Ex×ah)
 | [],g=>.inl g
 | b :: l,g=>match go b g with
  | .inl g'=>kM go l g'
  | .inr o=>.inr o
theorem Dm {xt : Nat} {β γ : Type} {f : ah→cj} (l : List β) (st : Nat→γ→ah) (go : β→γ→γ ⊕ (Ex×ah)) (E : γ→ah) (Inv : Nat→γ→Prop) (g : γ) (h0 : Inv 0 g)
  (h : ∀ i b g,l[i]? = some b→i < l.length→Inv i g→f (st i g) = (match go b g with | .inl g'=>some (.normal,st (i + 1) g') | .inr o=>lv o))
  (hI : ∀ i b g g',l[i]? = some b→Inv i g→go b g = .inl g'→Inv (i + 1) g')
  (hend : ∀ g,Inv l.length g→f (st l.length g) = some (.exit xt,E g)) :
  aC f (st 0 g) = match kM go l g with | .inl g'=>some (.exit xt,E g') | .inr o=>lv o:=by
 suffices H : ∀ (r : List β) (i : Nat) (g : γ),Inv i g→l.drop i = r→i≤l.length→aC f (st i g) = match kM go r g with | .inl g'=>some (.exit xt,E g') | .inr o=>lv o from H l 0 g h0 rfl (Nat.zero_le _)
 intro r
 induction r with
 | nil =>
  intro i g hi hr hl
  have : i = l.length:=by
   have:=congrArg List.length hr
   simp at this
   omega
  subst this
  rw [dy,hend g hi]
  rfl
 | cons b r ih =>
  intro i g hi hr hl
  have hlt : i < l.length:=by
   rcases Nat.lt_or_ge i l.length with h | h
   ·exact h
   ·rw [List.drop_eq_nil_of_le h] at hr; cases hr
  have hb : l[i]? = some b:=by
   have:=List.drop_eq_getElem_cons hlt
   rw [hr] at this
   rw [List.getElem?_eq_getElem hlt]
   cases this; rfl
  have hr' : l.drop (i + 1) = r:=by
   have:=List.drop_eq_getElem_cons hlt
   rw [hr] at this
   cases this; rfl
  rw [dy,h i b g hb hlt hi]
  unfold kM
  cases hg : go b g with
  | inl g'=>exact ih (i + 1) g' (hI i b g g' hb hi hg) hr' hlt
  | inr o =>
   obtain ⟨e,s⟩:=o
   cases e <;> simp [eu,lv]
def aI {α : Type} (p : α→Bool) (l : List α) : Bool:=l.all p
theorem gV {α : Type} {p : α→Bool} {l : List α} : aI p l = true↔∀ x∈l,p x = true:=List.all_eq_true
theorem cG {xt : Nat} {β : Type} {f : ah→cj} (l : List β) (st : Nat→ah) (p : β→Bool) (R E : ah)
  (h : ∀ i b,l[i]? = some b→i < l.length→f (st i) = if p b = true then some (.normal,st (i + 1)) else some (.ret,R))
  (hend : f (st l.length) = some (.exit xt,E)) :
  aC f (st 0) = if aI p l = true then some (.exit xt,E) else some (.ret,R):=by
 show _ = if l.all p = true then _ else _
 have H:=Dm (f:=f) l (fun i (_ : Unit)=>st i) (fun b _=>if p b = true then .inl () else .inr (.ret,R)) (fun _=>E) (fun _ _=>True) () trivial
  (fun i b g hb hl _=>by rw [h i b hb hl]; by_cases hp : p b = true <;> simp [hp,lv]) (fun _ _ _ _ _ _ _=>trivial) fun _ _=>hend
 refine H.trans ?_
 have : ∀ r : List β,kM (fun b (_ : Unit)=>if p b = true then .inl () else .inr (Ex.ret,R)) r () = if r.all p = true then .inl () else .inr (.ret,R):=by
  intro r
  induction r with
  | nil=>rfl
  | cons b r ih =>
   simp only [kM]
   by_cases hp : p b = true
   ·simp [hp,ih]
   ·simp [hp]
 rw [this]
 by_cases hp : l.all p = true <;> simp [hp,lv]
theorem Dl {xt : Nat} {β γ : Type} {f : ah→cj} (l : List β) (st : Nat→γ→ah) (go : γ→β→γ) (E : γ→ah) (Inv : Nat→γ→Prop) (g : γ) (h0 : Inv 0 g)
  (h : ∀ i b g,l[i]? = some b→i < l.length→Inv i g→f (st i g) = some (.normal,st (i + 1) (go g b)))
  (hI : ∀ i b g,l[i]? = some b→Inv i g→Inv (i + 1) (go g b))
  (hend : ∀ g,Inv l.length g→f (st l.length g) = some (.exit xt,E g)) :
  aC f (st 0 g) = some (.exit xt,E (l.foldl go g)):=by
 refine (Dm (f:=f) l st (fun b g=>.inl (go g b)) E Inv g h0 h (fun i b g g' hb hi e=>by cases e; exact hI i b g hb hi) hend).trans ?_
 have : ∀ (r : List β) (g : γ),kM (fun b g=>.inl (go g b)) r g = (.inl (r.foldl go g) : γ ⊕ (Ex×ah)):=by
  intro r
  induction r with
  | nil=>intro g; rfl
  | cons b r ih=>intro g; simp only [kM,List.foldl_cons]; exact ih _
 rw [this]
theorem lF {xt : Nat} {β : Type} {f : ah→cj} (l : List β) (st : Nat→ah) (E : ah)
  (h : ∀ i b,l[i]? = some b→i < l.length→f (st i) = some (.normal,st (i + 1)))
  (hend : f (st l.length) = some (.exit xt,E)) : aC f (st 0) = some (.exit xt,E) :=
 Dl l (fun i (_ : Unit)=>st i) (fun _ _=>()) (fun _=>E) (fun _ _=>True) () trivial (fun i b _ hb hl _=>h i b hb hl) (fun _ _ _ _ _=>trivial) fun _ _=>hend
theorem bz {n : Int} (h1 : -9223372036854775808≤n) (h2 : n≤9223372036854775807) : IntKind.i64.wrap n = n:=by
 simp only [IntKind.wrap,IntKind.signed,IntKind.bits,Bool.true_and,decide_eq_true_eq]
 split <;> rename_i h <;> simp at h <;> omega
theorem aM (n : Nat) (h : n < 9223372036854775807) : IntKind.i64.wrap (↑n + 1) = ↑n + 1:=bz (by omega) (by omega)
attribute [simp] base EC ga look zW sx uB AR Dv yZ jA gA
abbrev ag:=List UInt8
@[simp] theorem aly (s : ag) : ByteArray.size ⟨s.toArray⟩ = s.length:=by simp [ByteArray.size]
@[simp] theorem str_inj (s t : ag) : ((⟨s.toArray⟩ : ByteArray) = ⟨t.toArray⟩)↔s = t:=by
 constructor
 ·intro h
  injection h with h
  simpa using congrArg Array.toList h
 ·rintro rfl; rfl
theorem gN (s t : ag) : (⟨s.toArray⟩ : ByteArray) ++ ⟨t.toArray⟩ = ⟨(s ++ t).toArray⟩:=by
 apply ByteArray.ext
 rw [ByteArray.data_append]
 simp
@[simp] def eS (s : ag) : List X:=[.str ⟨s.toArray⟩]
structure Wr where
 at_ : Int
 text : ag
 deriving DecidableEq
structure aW where
 cells : List ag
 pending : List Wr
 deriving DecidableEq
@[simp] def eW (w : Wr) : List X:=[.int .i64 w.at_,.str ⟨w.text.toArray⟩]
@[simp] def bH (m : Md) (d : aW) : List X:=[.row m 1 (d.cells.map eS),.row m 2 (d.pending.map eW)]
@[simp] theorem ak8 (m : Md) (l : List ag) : X.bO m (l.map eS) = l.map eS:=by induction l <;> simp_all [X.bO,X.dz,X.md]
@[simp] theorem alc (m : Md) (l : List Wr) : X.bO m (l.map eW) = l.map eW:=by induction l <;> simp_all [X.bO,X.dz,X.md]
@[simp] theorem ajr (l : List ag) : X.clean.bw (l.map eS) = true:=by induction l <;> simp_all [X.clean.bw,X.clean.ck,X.clean]
@[simp] theorem ajv (l : List Wr) : X.clean.bw (l.map eW) = true:=by induction l <;> simp_all [X.clean.bw,X.clean.ck,X.clean]
def dU {α : Type} (f : α→Int→Int) : List α→Int→Int
 | [],n=>n
 | a :: l,n=>if f a n < 0 then -1 else dU f l (f a n)
theorem pU {xt : Nat} {β : Type} {f : ah→cj} (l : List β) (st : Nat→Int→ah) (z : β→Int→Int) (R : ah) (E : Int→ah) (n : Int) (hn : 0≤n) (hm : n≤9223372036854775807)
  (hz : ∀ a n,z a n≤n∨z a n < 0)
  (h : ∀ i b n,l[i]? = some b→i < l.length→0≤n→n≤9223372036854775807→f (st i n) = if z b n < 0 then some (.ret,R) else some (.normal,st (i + 1) (z b n)))
  (hend : ∀ n,f (st l.length n) = some (.exit xt,E n)) :
  aC f (st 0 n) = if dU z l n < 0 then some (.ret,R) else some (.exit xt,E (dU z l n)):=by
 have H:=Dm (f:=f) l st (fun b n=>if z b n < 0 then .inr (.ret,R) else .inl (z b n)) E (fun _ n=>0≤n∧n≤9223372036854775807) n ⟨hn,hm⟩
  (fun i b n hb hl hi=>by rw [h i b n hb hl hi.1 hi.2]; by_cases hp : z b n < 0 <;> simp [hp,lv]) (fun i b g g' hb hi hg=>by
   by_cases hp : z b g < 0
   ·simp [hp] at hg
   ·simp [hp] at hg
    have:=hz b g
    omega) fun g _=>hend g
 refine H.trans ?_
 have : ∀ (r : List β) (n : Int),0≤n→kM (fun b n=>if z b n < 0 then .inr (Ex.ret,R) else .inl (z b n)) r n = if dU z r n < 0 then .inr (.ret,R) else .inl (dU z r n):=by
  intro r
  induction r with
  | nil=>intro n hn; rw [if_neg (by simp [dU]; omega)]; rfl
  | cons b r ih =>
   intro n hn
   simp only [kM,dU]
   by_cases hp : z b n < 0
   ·simp [hp]
   ·simp only [hp,if_false]
    exact ih _ (by omega)
 rw [this l n hn]
 by_cases hp : dU z l n < 0 <;> simp [hp,lv]
theorem ab9 {α β : Type} (l : List α) (e : α→β) (z : β) (g : β→β) {i : Nat} (hi : i < l.length) (hg : g z = e l[i]) :
  ((l.take i).map e ++ List.replicate (l.length - i) z).modify i g = (l.take (i + 1)).map e ++ List.replicate (l.length - (i + 1)) z:=by
 apply List.ext_getElem?
 intro j
 rw [List.getElem?_modify]
 rcases Nat.lt_trichotomy j i with h | h | h
 ·rw [List.getElem?_append_left (by simp; omega),List.getElem?_append_left (by simp; omega)]
  simp only [List.getElem?_map,List.getElem?_take,if_pos h,if_pos (Nat.lt_succ_of_lt h),if_neg (Nat.ne_of_gt h)]
  cases l[j]? <;> rfl
 ·subst h
  rw [List.getElem?_append_right (by simp; omega),List.getElem?_append_left (by simp; omega)]
  have : j - ((l.take j).map e).length = 0:=by simp; omega
  rw [this,List.getElem?_replicate_of_lt (by omega)]
  simp only [List.getElem?_map,List.getElem?_take,if_pos (Nat.lt_succ_self j),List.getElem?_eq_getElem hi,if_true,Option.map_some,← hg]
  rfl
 ·rw [List.getElem?_append_right (by simp; omega),List.getElem?_append_right (by simp; omega)]
  have h1 : j - ((l.take i).map e).length = j - i:=by simp; omega
  have h2 : j - ((l.take (i + 1)).map e).length = j - (i + 1):=by simp; omega
  rw [h1,h2,List.getElem?_replicate,List.getElem?_replicate]
  by_cases h3 : j < l.length
  ·rw [if_pos (by omega),if_pos (by omega)]
   simp only [Nat.ne_of_lt h,if_false]
   rfl
  ·rw [if_neg (by omega),if_neg (by omega)]
   rfl
def dw (rows : List (List X)) (i : Nat) (z : List X) : List (List X):=rows.take i ++ List.replicate (rows.length - i) z
@[simp] theorem akp (rows : List (List X)) (i : Nat) (z : List X) : (dw rows i z).length = rows.length:=by simp [dw]; omega
@[simp] theorem Wj (rows : List (List X)) (i : Nat) (z : List X) (h : i < rows.length) : (dw rows i z)[i]? = some z:=by
 unfold dw
 rw [List.getElem?_append_right (by simp; omega),List.getElem?_replicate_of_lt (by simp; omega)]
@[simp] theorem ako (rows : List (List X)) (i : Nat) (z : List X) (h : i < (dw rows i z).length) : (dw rows i z)[i] = z:=by
 have h' : i < rows.length:=by simpa using h
 have:=Wj rows i z h'
 rw [List.getElem?_eq_getElem h] at this
 exact Option.some.inj this
@[simp] theorem akq (rows : List (List X)) (z : List X) : dw rows 0 z = List.replicate rows.length z:=by simp [dw]
@[simp] theorem akn (rows : List (List X)) (i : Nat) (z : List X) (h : i = rows.length) : dw rows i z = rows:=by subst h; simp [dw]
@[simp] theorem gH (rows : List (List X)) (i : Nat) (z : List X) (g : List X→List X) (h : i < rows.length) (hg : g z = rows[i]) : (dw rows i z).modify i g = dw rows (i + 1) z:=by
 have:=ab9 rows id z g h (by simpa using hg)
 simpa [dw] using this
theorem nU {α : Type} (l : List α) (i : Nat) (f g : α→α) : (l.modify i f).modify i g = l.modify i fun x=>g (f x):=by
 apply List.ext_getElem?
 intro j
 simp only [List.getElem?_modify]
 by_cases h : i = j
 ·simp only [h,if_true]; cases l[j]? <;> rfl
 ·simp only [h,if_false]; cases l[j]? <;> rfl
theorem j9 {α β : Type} : ∀ {a : List α} {b : List β},a.length = b.length→∃ ps : List (α×β),a = ps.map Prod.fst∧b = ps.map Prod.snd
 | [],[],_=>⟨[],rfl,rfl⟩
 | x :: a,y :: b,h=>by
  obtain ⟨ps,h1,h2⟩:=j9 (a:=a) (b:=b) (by simpa using h)
  exact ⟨(x,y) :: ps,by simp [← h1],by simp [← h2]⟩
 | [],_ :: _,h=>by cases h
 | _ :: _,[],h=>by cases h
def b8 {α : Type} [DecidableEq α] (x : α×α) : Bool:=decide (x.1 = x.2)
theorem jE {α : Type} [DecidableEq α] : ∀ ps : List (α×α),aI b8 ps = decide (ps.map Prod.fst = ps.map Prod.snd)
 | []=>rfl
 | x :: ps=>by
  have:=jE ps
  unfold aI at this ⊢
  simp only [List.all_cons,this,b8,List.map_cons,List.cons.injEq]
  exact (Bool.decide_and ..).symm
theorem abP {xt : Nat} {β : Type} {f : ah→cj} (l : List β) (st : Int→ah) (p : β→Bool) (R : β→ah) (E : ah)
  (h : ∀ (i : Nat) b,l[i]? = some b→i < l.length→f (st i) = if p b = true then some (.ret,R b) else some (.normal,st (i - 1)))
  (hend : f (st (-1)) = some (.exit xt,E)) :
  aC f (st (l.length - 1)) = (l.reverse.find? p).elim (some (.exit xt,E)) (fun b=>some (.ret,R b)):=by
 suffices H : ∀ k,k≤l.length→aC f (st ((k : Int) - 1)) = ((l.take k).reverse.find? p).elim (some (.exit xt,E)) (fun b=>some (.ret,R b)) by
  have:=H l.length (Nat.le_refl _)
  rwa [List.take_length] at this
 intro k
 induction k with
 | zero=>intro _; rw [dy]; simp [hend]
 | succ k ih =>
  intro hk
  have hb : l[k]? = some l[k]:=List.getElem?_eq_getElem hk
  have e : ((k + 1 : Nat) : Int) - 1 = (k : Int):=by omega
  rw [e,dy,h k _ hb hk,List.take_add_one,hb]
  simp only [Option.toList_some,List.reverse_append,List.reverse_cons,List.reverse_nil,List.nil_append,List.singleton_append,List.find?_cons]
  by_cases hp : p l[k] = true
  ·simp [hp]
  ·simp only [hp,Bool.false_eq_true,if_false,aeC]
   exact ih (by omega)
def cw (d : aW) (a : Int) : ag:=d.pending.foldl (fun out w=>if w.at_ = a then w.text else out) (d.cells.getD a.toNat [])
theorem Gz (a : Int) : ∀ (l : List Wr) (x : ag),l.foldl (fun out w=>if w.at_ = a then w.text else out) x = (l.reverse.find? (fun w=>decide (w.at_ = a))).elim x Wr.text
 | [],x=>rfl
 | w :: l,x=>by
  rw [List.foldl_cons,Gz a l,List.reverse_cons,List.find?_append]
  cases l.reverse.find? (fun w=>decide (w.at_ = a)) with
  | some v=>rfl
  | none=>by_cases h : w.at_ = a <;> simp [h]
def mc (new old : List (List X)) (i : Nat) : List (List X):=new.take i ++ old.drop i
@[simp] theorem Me (new old : List (List X)) (i : Nat) (h : new.length = old.length) : (mc new old i).length = old.length:=by simp [mc]; omega
@[simp] theorem Wi (new old : List (List X)) (i : Nat) (h : new.length = old.length) (hi : i < old.length) : (mc new old i)[i]? = old[i]?:=by
 unfold mc
 rw [List.getElem?_append_right (by simp; omega),List.getElem?_drop]
 congr 1
 simp; omega
@[simp] theorem akl (new old : List (List X)) (i : Nat) (hl : i < (mc new old i).length) (h : new.length = old.length) : (mc new old i)[i] = old[i]'(by rw [Me _ _ _ h] at hl; exact hl):=by
 have hi : i < old.length:=by rw [Me _ _ _ h] at hl; exact hl
 have:=Wi new old i h hi
 rw [List.getElem?_eq_getElem hl,List.getElem?_eq_getElem hi] at this
 exact Option.some.inj this
@[simp] theorem akm (new old : List (List X)) : mc new old 0 = old:=by simp [mc]
@[simp] theorem akk (new old : List (List X)) (i : Nat) (h : new.length = old.length) (hi : i = old.length) : mc new old i = new:=by subst hi; rw [← h]; simp [mc]; omega
def nS (n : Nat) (out : ag) : ag:=if h : n = 0 then out else nS (n / 10) (UInt8.ofNat (48 + n % 10) :: out)
termination_by n
decreasing_by omega
def yF (k : Int) : ag:=if k≤0 then [109,48] else 109 :: nS k.toNat []
def yG (n : Nat) (k : Int) : List ag:=(List.range n).map fun (i : Nat)=>yF (k + i)
def yH (n : Nat) (k : Int) : List Wr:=(List.range n).map fun (i : Nat)=>⟨k + 2 * i,yF (k + 2 * i + 1)⟩
@[simp] theorem akS (n : Nat) (k : Int) : (yG n k).length = n:=by simp [yG]
@[simp] theorem akU (n : Nat) (k : Int) : (yH n k).length = n:=by simp [yH]
@[simp] theorem akR (n : Nat) (k : Int) (i : Nat) (h : i < (yG n k).length) : (yG n k)[i] = yF (k + i):=by simp [yG]
@[simp] theorem akT (n : Nat) (k : Int) (i : Nat) (h : i < (yH n k).length) : (yH n k)[i] = ⟨k + 2 * i,yF (k + 2 * i + 1)⟩:=by simp [yH]
def foldI {β γ : Type} (go : Nat→γ→β→γ) : Nat→List β→γ→γ
 | _,[],g=>g
 | i,b :: l,g=>foldI go (i + 1) l (go i g b)
theorem gw {xt : Nat} {β γ : Type} {f : ah→cj} (l : List β) (st : Nat→γ→ah) (go : Nat→γ→β→γ) (E : γ→ah) (Inv : Nat→γ→Prop) (g : γ) (h0 : Inv 0 g)
  (h : ∀ i b g,l[i]? = some b→i < l.length→Inv i g→f (st i g) = some (.normal,st (i + 1) (go i g b)))
  (hI : ∀ i b g,l[i]? = some b→Inv i g→Inv (i + 1) (go i g b))
  (hend : ∀ g,Inv l.length g→f (st l.length g) = some (.exit xt,E g)) :
  aC f (st 0 g) = some (.exit xt,E (foldI go 0 l g)):=by
 suffices H : ∀ (r : List β) (i : Nat) (g : γ),Inv i g→l.drop i = r→i≤l.length→aC f (st i g) = some (.exit xt,E (foldI go i r g)) from H l 0 g h0 rfl (Nat.zero_le _)
 intro r
 induction r with
 | nil =>
  intro i g hi hr hl
  have : i = l.length:=by
   have:=congrArg List.length hr
   simp at this
   omega
  subst this
  rw [dy,hend g hi]
  rfl
 | cons b r ih =>
  intro i g hi hr hl
  have hlt : i < l.length:=by
   rcases Nat.lt_or_ge i l.length with h | h
   ·exact h
   ·rw [List.drop_eq_nil_of_le h] at hr; cases hr
  have hd:=List.drop_eq_getElem_cons hlt
  rw [hr] at hd
  have hb : l[i]? = some b:=by
   rw [List.getElem?_eq_getElem hlt]
   cases hd; rfl
  have hr' : l.drop (i + 1) = r:=by cases hd; rfl
  rw [dy,h i b g hb hlt hi]
  exact ih (i + 1) _ (hI i b g hb hi) hr' hlt
def fV (k : Nat→Bool) (i : Nat) (cs : List ag) (w : Wr) : List ag:=if k i = true then cs.set w.at_.toNat w.text else cs
def lD (k : Nat→Bool) (cs : List ag) (ws : List Wr) : List ag:=foldI (fV k) 0 ws cs
theorem Dd (k : Nat→Bool) (i : Nat) (cs : List ag) (w : Wr) : (fV k i cs w).length = cs.length:=by unfold fV; split <;> simp
theorem Mz (k : Nat→Bool) : ∀ (ws : List Wr) (i : Nat) (cs : List ag),(foldI (fV k) i ws cs).length = cs.length
 | [],_,_=>rfl
 | w :: ws,i,cs=>by rw [foldI,Mz k ws,Dd]
theorem NV (k : Nat→Bool) (cs : List ag) (ws : List Wr) : (lD k cs ws).length = cs.length:=Mz k ws 0 cs
@[simp] theorem ald (cs : List ag) (n : Nat) (t : ag) : (cs.map eS).modify n (fun x=>x.set 0 (X.str ⟨t.toArray⟩)) = (cs.set n t).map eS:=by
 apply List.ext_getElem?
 intro j
 rw [List.getElem?_modify,List.getElem?_map,List.getElem?_map,List.getElem?_set]
 by_cases h : n = j
 ·subst h
  simp only [if_true]
  by_cases h2 : n < cs.length
  ·simp [h2]
  ·simp [h2,List.getElem?_eq_none (Nat.le_of_not_lt h2)]
 ·simp only [h,if_false]
  cases cs[j]? <;> rfl
def fE (keep : List Bool) (all : Bool) (i : Nat) : Bool:=all || keep.getD i false
@[simp] def eB (b : Bool) : List X:=[.bool b]
@[simp] theorem akW (m : Md) (l : List Bool) : X.bO m (l.map eB) = l.map eB:=by induction l <;> simp_all [X.bO,X.dz,X.md]
@[simp] theorem ajf (l : List Bool) : X.clean.bw (l.map eB) = true:=by induction l <;> simp_all [X.clean.bw,X.clean.ck,X.clean]
theorem JD (l : List ag) : gy (l.map eS) = true:=by induction l <;> simp_all [gy,scalar]
theorem Pq (l : List Wr) : gy (l.map eW) = true:=by induction l <;> simp_all [gy,scalar]
attribute [simp] JD Pq
@[simp] theorem aje (a b : List (List X)) : X.clean.bw (a ++ b) = (X.clean.bw a && X.clean.bw b):=by
 induction a with
 | nil=>simp [X.clean.bw]
 | cons e a ih=>simp [X.clean.bw,ih,Bool.and_assoc]
@[simp] theorem akV (m : Md) (a b : List (List X)) : X.bO m (a ++ b) = X.bO m a ++ X.bO m b:=by
 induction a with
 | nil=>simp [X.bO]
 | cons e a ih=>simp [X.bO,ih]
structure mW where
 code : List UInt8
 i : Nat
 h : Int
 hi : i≤code.length
 hl : code.length≤9223372036854775807
@[simp] def eU (b : UInt8) : List X:=[.int .u8 (b.toNat : Int)]
@[simp] theorem alb (m : Md) (l : List UInt8) : X.bO m (l.map eU) = l.map eU:=by induction l <;> simp_all [X.bO,X.dz,X.md]
@[simp] theorem aju (l : List UInt8) : X.clean.bw (l.map eU) = true:=by induction l <;> simp_all [X.clean.bw,X.clean.ck,X.clean]
def jm (c : mW) : List X:=[.row .sl 1 (c.code.map eU),.int .i64 c.i,.int .i64 c.h]
@[simp] theorem ajX (c : mW) : (jm c).length = 3:=rfl
@[simp] theorem ajZ (c : mW) : (jm c).take 3 = jm c:=rfl
@[simp] theorem ajU (c : mW) : (jm c).drop 3 = []:=rfl
@[simp] theorem ajY (ks : List Nat) (c : mW) : X.mH ks (jm c) = jm c:=rfl
@[simp] theorem ajV (r : Nat) (p : Path) (c : mW) : X.fU r p (jm c) = jm c:=rfl
@[simp] theorem ajW (r : Nat) (p : Path) (c : mW) : X.nN r p (jm c) = jm c:=rfl
@[simp] theorem ajT (c : mW) : X.clean.ck (jm c) = true:=by simp [jm,X.clean.ck,X.clean]
@[simp] theorem ajS (c : mW) : X.bare.iB (jm c) = true:=by simp [jm,X.bare.iB,X.bare]
end M
namespace M
open Go Go.RowKit
inductive Ty where
 | int (k : IntKind)
 | bool
 | str
 | row (ts : List Ty)
inductive gT : Ty→X→Prop
 | int {k n} : (Lit.int k n).wf = true→gT (.int k) (.int k n)
 | bool {b} : gT .bool (.bool b)
 | str {s : ByteArray} : s.size≤maxLen→gT .str (.str s)
 | row {ts xs} : xs.length≤maxLen→(∀ r : List X,r∈xs→r.length = ts.length)→(∀ (r : List X),r∈xs→∀ (j : Nat) ty x,ts[j]? = some ty→r[j]? = some x→gT ty x)→gT (.row ts) (.row .sl ts.length xs)
structure Az (w : World) (ty : Ty) (c : C) : Prop where
 cell : c.cell
 cA : c.cA
 fits : c.fits .sl
 ok : c.ok w (Zf (fun b _=>b < w.heap.size) fun _ _=>False)
 fp : ∀ b k,¬ c.fp b k
 v8 : gT ty c.er
def jG (w : World) : List Ty→List Value→List C→Prop
 | [],[],[]=>True
 | ty :: ts,v :: vs,c :: cs=>c.val = v∧Az w ty c∧jG w ts vs cs
 | _,_,_=>False
theorem MO {w : World} : ∀ {ts : List Ty} {vs : List Value} {cs : List C} {ts' : List Ty} {vs' : List Value} {cs' : List C},jG w ts vs cs→jG w ts' vs' cs'→jG w (ts ++ ts') (vs ++ vs') (cs ++ cs')
 | [],[],[],_,_,_,_,h=>h
 | _ :: _,_ :: _,_ :: _,_,_,_,⟨h1,h2,h3⟩,h=>⟨h1,h2,MO h3 h⟩
theorem MP {w : World} : ∀ {ts : List Ty} {vs : List Value} {cs : List C},jG w ts vs cs→vs.length = ts.length∧cs.length = ts.length∧vs = cs.map C.val
 | [],[],[],_=>⟨rfl,rfl,rfl⟩
 | _ :: _,_ :: _,_ :: _,⟨h1,h2,h3⟩=>by
  obtain ⟨e1,e2,e3⟩:=MP h3
  exact ⟨by simp [e1],by simp [e2],by simp [h1,← e3]⟩
theorem GG {w : World} : ∀ {ts : List Ty} {vs : List Value} {cs : List C},jG w ts vs cs→∀ {j : Nat},j < ts.length→∃ ty c,ts[j]? = some ty∧cs[j]? = some c∧vs[j]? = some c.val∧Az w ty c
 | ty :: ts,v :: vs,c :: cs,⟨h1,h2,h3⟩,0,_=>⟨ty,c,rfl,rfl,by simp [h1],h2⟩
 | ty :: ts,v :: vs,c :: cs,⟨h1,h2,h3⟩,j + 1,h=>by
  obtain ⟨ty,c,a1,a2,a3,a4⟩:=GG h3 (j:=j) (by simpa using h)
  exact ⟨ty,c,by simpa using a1,by simpa using a2,by simpa using a3,a4⟩
def vA (P : Program) (r : TypeId→Option (List Ty)) : Nat→List Field→Option (List Ty)
 | _,[]=>some []
 | o,f :: fs=>if f.offset = o then (r f.type).bind fun ts=>if ts.length = P.cellsOf f.type then (vA P r (o + ts.length) fs).map (ts ++ ·) else none else none
def iz (P : Program) : Nat→Bool→TypeId→Option (List Ty)
 | 0,_,_=>none
 | n + 1,deep,t=>match P.underlying t with
  | some .bool=>some [.bool]
  | some (.int k)=>some [.int k]
  | some .string=>some [.str]
  | some (.slice e)=>if deep then (iz P n true e).bind fun ts=>if ts.length = P.cellsOf e∧0 < P.cellsOf e then some [.row ts] else none else none
  | some (.struct fs)=>(vA P (iz P n deep) 0 fs.toList).bind fun ts=>if ts.length = P.cellsOf t then some ts else none
  | _=>none
section
variable {H : Type} {enc : TypeId×Value→H} {P : Program} {w : World} {sp : Nat→Bool} {held : Bool}
theorem P3 {r : TypeId→Option (List Ty)} {cs : List Value}
  (hr : ∀ t ts fuel cs' x,r t = some ts→DataW.trod enc P w 0 sp held fuel t cs' = some x→(∀ v∈cs',v∈cs)→∃ Cs,jG w ts cs' Cs) :
  ∀ (fs : List Field) (o : Nat) (ts : List Ty),vA P r o fs = some ts→(∀ f∈fs,∃ fuel x,DataW.trod enc P w 0 sp held fuel f.type ((cs.drop f.offset).take (P.cellsOf f.type)) = some x) →
   ∃ Cs,jG w ts ((cs.drop o).take ts.length) Cs
 | [],o,ts,h,_=>by
  cases h
  exact ⟨[],by simp [jG]⟩
 | f :: fs,o,ts,h,hx=>by
  simp only [vA] at h
  split at h
  ·rename_i ho
   simp only [Option.bind_eq_some_iff] at h
   obtain ⟨t1,h1,h⟩:=h
   split at h
   ·rename_i hl
    simp only [Option.map_eq_some_iff] at h
    obtain ⟨t2,h2,rfl⟩:=h
    obtain ⟨fuel,x,hf⟩:=hx f (List.mem_cons_self ..)
    obtain ⟨C1,g1⟩:=hr _ _ _ _ _ h1 hf fun v hv=>List.mem_of_mem_drop (List.mem_of_mem_take hv)
    obtain ⟨C2,g2⟩:=P3 hr fs _ _ h2 fun f hf=>hx f (List.mem_cons_of_mem _ hf)
    refine ⟨C1 ++ C2,?_⟩
    rw [List.length_append,List.take_add,List.drop_drop]
    rw [ho,← hl] at g1
    exact MO g1 g2
   ·cases h
  ·cases h
theorem aem {w : World} {g o n m : Nat} {spot : Option Nat} {vs : List Value} (hn : 0 < n) (h : w.cells? 0 ((⟨g,o,spot⟩ : Addr).add (0 * m)) n = some vs) : spot = none:=by
 obtain ⟨_,hl,e3⟩:=World.cells?_some h
 have e4:=e3 0 hn
 have : ∃ v,vs[0]? = some v:=⟨vs[0],List.getElem?_eq_getElem (by omega)⟩
 obtain ⟨v,hv⟩:=this
 rw [hv] at e4
 have ha : ((⟨g,o,spot⟩ : Addr).add (0 * m)).add 0 = ⟨g,o,spot⟩:=by simp [Addr.add]
 rw [ha] at e4
 unfold World.cell? at e4
 cases spot with
 | none=>rfl
 | some k =>
  split at e4
  ·simp at e4
  ·cases e4
theorem trod_good : ∀ (n : Nat) (deep : Bool) (t : TypeId) (ts : List Ty),iz P n deep t = some ts→∀ (fuel : Nat) (cs : List Value) (x : DataW H×List MemPlace),DataW.trod enc P w 0 sp held fuel t cs = some x→∃ Cs,jG w ts cs Cs
 | 0,_,_,_,h,_,_,_,_=>by cases h
 | n + 1,deep,t,ts,h,fuel,cs,x,hx=>by
  simp only [iz] at h
  split at h
  ·rename_i hu
   cases h
   obtain ⟨b,rfl,rfl⟩:=DataW.trod_bool hu hx
   exact ⟨[.bool b],rfl,⟨trivial,trivial,trivial,trivial,fun _ _ h=>h,.bool⟩,trivial⟩
  ·rename_i k hu
   cases h
   obtain ⟨m,rfl,rfl,hw⟩:=DataW.trod_int hu hx
   exact ⟨[.int k m],rfl,⟨trivial,trivial,trivial,trivial,fun _ _ h=>h,.int hw⟩,trivial⟩
  ·rename_i hu
   cases h
   obtain ⟨s,rfl,rfl,hw⟩:=DataW.trod_string hu hx
   exact ⟨[.str s],rfl,⟨trivial,trivial,trivial,hw,fun _ _ h=>h,.str hw⟩,trivial⟩
  ·rename_i e hu
   split at h
   ·rename_i hd
    simp only [Option.bind_eq_some_iff] at h
    obtain ⟨te,h1,h⟩:=h
    split at h
    ·rename_i hl
     obtain ⟨hl,hpos⟩:=hl
     cases h
     rcases DataW.trod_slice hu hx with ⟨rfl,rfl⟩ | ⟨a,len,cap,elems,rest,m,rfl,rfl,rfl,_,hlc,hcm,hel,gu,_,_⟩
     ·refine ⟨[.row .sl te.length none 0 0 fun _ _=>.dead undef],rfl,⟨trivial,trivial,.inr (.inl rfl),⟨Nat.le_refl _,fun i j hi=>by omega,fun i j hi=>by omega,fun h=>(by cases h),fun i j hi=>by omega⟩,fun b k h=>(by cases h.1),?_⟩,trivial⟩
      exact gT.row (xs:=[]) (by simp) (fun r hr=>by cases hr) (fun r hr=>by cases hr)
     ·obtain ⟨g,o,spot⟩:=a
      by_cases hl0 : len = 0
      ·subst hl0
       refine ⟨[.row .sl te.length (some (g,o,spot)) 0 cap fun _ _=>.dead undef],rfl,⟨trivial,trivial,.inr (.inl rfl),⟨hlc,fun i j hi=>by omega,fun i j hi=>by omega,fun h=>(by cases h),fun i j hi=>by omega⟩,fun b k h=>(by cases h.1),?_⟩,trivial⟩
       exact gT.row (xs:=[]) (by simp) (fun r hr=>by cases hr) (fun r hr=>by cases hr)
      have aaU : spot = none:=by
       have:=gu 0 (by omega)
       rw [List.getElem?_eq_getElem (by omega),Option.bind_eq_some_iff] at this
       obtain ⟨vs,e1,e2⟩:=this
       exact aem hpos e1
      subst aaU
      have hex : ∀ i,∃ (vs : List Value) (l : List C),i < len→w.cells? 0 ((⟨g,o,none⟩ : Addr).add (i * P.cellsOf e)) (P.cellsOf e) = some vs∧jG w te vs l:=fun i=>by
       by_cases hi : i < len
       ·have:=gu i hi
        rw [List.getElem?_eq_getElem (by omega),Option.bind_eq_some_iff] at this
        obtain ⟨vs,e1,e2⟩:=this
        obtain ⟨l,hl⟩:=trod_good n true _ _ h1 _ _ _ e2
        exact ⟨vs,l,fun _=>⟨e1,hl⟩⟩
       ·exact ⟨[],[],fun h=>(hi h).elim⟩
      let vs:=fun i=>(hex i).choose
      let l:=fun i=>(hex i).choose_spec.choose
      have hvl : ∀ i,i < len→w.cells? 0 ((⟨g,o,none⟩ : Addr).add (i * P.cellsOf e)) (P.cellsOf e) = some (vs i)∧jG w te (vs i) (l i):=fun i=>(hex i).choose_spec.choose_spec
      have hij : ∀ i j,i < len→j < te.length→∃ ty,te[j]? = some ty∧(l i)[j]? = some ((l i).getD j (.dead undef))∧w.cell? ⟨g,o + i * te.length + j,none⟩ = some ((l i).getD j (.dead undef)).val∧Az w ty ((l i).getD j (.dead undef)):=fun i j hi hj=>by
       obtain ⟨e1,e2⟩:=hvl i hi
       obtain ⟨ty,c,a1,a2,a3,a4⟩:=GG e2 hj
       have hc : (l i).getD j (.dead undef) = c:=by rw [List.getD_eq_getElem?_getD,a2]; rfl
       rw [hc]
       obtain ⟨_,_,e3⟩:=World.cells?_some e1
       have e4:=e3 j (by omega)
       rw [a3] at e4
       refine ⟨ty,a1,a2,?_,a4⟩
       rw [← e4]
       congr 1
       rw [hl]
       unfold Addr.add
       split <;> split <;> simp_all
      have hb : ∀ i j,i < len→j < te.length→g < w.heap.size:=fun i j hi hj=>by
       obtain ⟨_,_,_,h3,_⟩:=hij i j hi hj
       exact World.block_lt_of_cell? w _ h3
      refine ⟨[.row .sl te.length (some (g,o,none)) len cap fun i j=>(l i).getD j (.dead undef)],rfl,⟨trivial,trivial,.inr (.inl rfl),⟨hlc,fun i j hi hj=>⟨g,o,rfl,?_,fun _=>hb i j hi hj⟩,fun i j hi hj=>?_,fun h=>(by cases h),fun i j hi hj b k hf=>?_⟩,fun b k h=>(by cases h.1),?_⟩,trivial⟩
      ·obtain ⟨ty,_,_,h3,h4⟩:=hij i j hi hj
       exact h3
      ·obtain ⟨ty,_,_,h3,h4⟩:=hij i j hi hj
       exact ⟨h4.cell,h4.cA,h4.fits,h4.ok⟩
      ·obtain ⟨ty,_,_,h3,h4⟩:=hij i j hi hj
       exact (h4.fp b k hf).elim
      ·refine gT.row (by simpa using Nat.le_trans hlc hcm) (fun r hr=>?_) fun r hr j ty x hty He=>?_
       ·simp only [List.mem_map,List.mem_range] at hr
        obtain ⟨i,_,rfl⟩:=hr
        simp
       ·simp only [List.mem_map,List.mem_range] at hr
        obtain ⟨i,hi,rfl⟩:=hr
        have hj : j < te.length:=by
         rcases Nat.lt_or_ge j te.length with h | h
         ·exact h
         ·rw [List.getElem?_eq_none h] at hty; cases hty
        obtain ⟨ty',e1,_,_,h4⟩:=hij i j hi hj
        rw [e1] at hty
        cases hty
        rw [List.getElem?_map,List.getElem?_range hj] at He
        simp only [Option.map_some,Option.some.injEq] at He
        subst He
        exact h4.v8
    ·cases h
   ·cases h
  ·rename_i fs hu
   simp only [Option.bind_eq_some_iff] at h
   obtain ⟨te,h1,h⟩:=h
   split at h
   ·rename_i hl
    cases h
    obtain ⟨xs,m,rfl,rfl,hcs,hxl,gu⟩:=DataW.trod_struct hu hx
    obtain ⟨Cs,hC⟩:=P3 (cs:=cs) (fun t ts' fuel cs' x hr ht hm=>trod_good n deep t ts' hr fuel cs' x ht) fs.toList 0 ts h1 fun f hf=>by
     obtain ⟨i,hi,rfl⟩:=List.getElem_of_mem hf
     have hi' : i < fs.size:=by simpa using hi
     have:=gu i (fs[i]) (by simp [hi'])
     rw [List.getElem?_eq_getElem (by omega)] at this
     exact ⟨_,_,by simpa using this⟩
    refine ⟨Cs,?_⟩
    rw [List.drop_zero,hl,← hcs,List.take_length] at hC
    exact hC
   ·cases h
  ·cases h
theorem JU : ∀ (n : Nat) (deep : Bool) (t : TypeId) (ts : List Ty),iz P n deep t = some ts→∀ (fuel : Nat) (cs : List Value) (x : DataW H×List MemPlace),DataW.trod enc P w 0 (fun _=>true) held fuel t cs = some x→DataW.trod enc P w 0 (fun b=>decide (b < w.heap.size)) held fuel t cs = some x
 | 0,_,_,_,h,_,_,_,_=>by cases h
 | n + 1,deep,t,ts,h,0,cs,x,hx=>by simp [DataW.trod] at hx
 | n + 1,deep,t,ts,h,fuel + 1,cs,x,hx=>by
  simp only [iz] at h
  split at h
  ·rename_i hu
   obtain ⟨b,rfl,rfl⟩:=DataW.trod_bool hu hx
   simp [DataW.trod,hu]
  ·rename_i k hu
   obtain ⟨m,rfl,rfl,hw⟩:=DataW.trod_int hu hx
   simp [DataW.trod,hu,hw]
  ·rename_i hu
   obtain ⟨s,rfl,rfl,hw⟩:=DataW.trod_string hu hx
   simp [DataW.trod,hu,hw]
  ·rename_i e hu
   split at h
   ·simp only [Option.bind_eq_some_iff] at h
    obtain ⟨te,h1,h⟩:=h
    split at h
    ·rename_i hl
     obtain ⟨hl,hpos⟩:=hl
     rcases DataW.trod_slice hu hx with ⟨rfl,rfl⟩ | ⟨a,len,cap,elems',rest',m,_,rfl,_⟩
     ·simp [DataW.trod,hu]
     ·unfold DataW.trod at hx ⊢
      simp only [hu] at hx ⊢
      split at hx
      ·rename_i hc
       rw [if_pos hc]
       simp only [Option.map_eq_some_iff,Option.bind_eq_some_iff,if_true] at hx ⊢
       obtain ⟨elems,he,rest,qZ,rfl⟩:=hx
       have one : ∀ (i : Nat) (y : DataW H×List MemPlace),(w.cells? 0 (a.add (i * P.cellsOf e)) (P.cellsOf e)).bind (DataW.trod enc P w 0 (fun _=>true) held fuel e) = some y→(w.cells? 0 (a.add (i * P.cellsOf e)) (P.cellsOf e)).bind (DataW.trod enc P w 0 (fun b=>decide (b < w.heap.size)) held fuel e) = some y:=fun i y hv=>by
        simp only [Option.bind_eq_some_iff] at hv ⊢
        obtain ⟨cs',jb,hy'⟩:=hv
        exact ⟨cs',jb,JU n true _ _ h1 _ _ _ hy'⟩
       refine ⟨elems,mapM_carry he fun i y _ _ hv=>one i y hv,rest,?_,rfl⟩
       by_cases hb : a.block < w.heap.size
       ·rw [if_pos (by simpa using hb)]
        exact mapM_carry qZ fun i y _ _ hv=>one (len + i) y hv
       ·rw [if_neg (by simpa using hb)]
        have : cap - len = 0:=by
         rcases Nat.eq_zero_or_pos (cap - len) with h | h
         ·exact h
         ·have h0:=mapM_some_get qZ 0 0 (by simp [h])
          have hl' : 0 < rest.length:=by have:=mapM_some_length qZ; simp at this; omega
          rw [List.getElem?_eq_getElem hl',Option.bind_eq_some_iff] at h0
          obtain ⟨vs,e1,_⟩:=h0
          have:=World.cells?_block e1 hpos
          refine (hb ?_).elim
          unfold Addr.add at this
          split at this <;> exact this
        rw [this] at qZ
        exact qZ
      ·cases hx
    ·cases h
   ·cases h
  ·rename_i fs hu
   simp only [Option.bind_eq_some_iff] at h
   obtain ⟨te,h1,h⟩:=h
   unfold DataW.trod at hx ⊢
   simp only [hu] at hx ⊢
   have each : ∀ (o : Nat) (l : List Field) (ts : List Ty),vA P (iz P n deep) o l = some ts→∀ f∈l,∃ t1,iz P n deep f.type = some t1:=by
    intro o l
    induction l generalizing o with
    | nil=>intro _ _ f hf; cases hf
    | cons f l ih =>
     intro ts h f' hf'
     simp only [vA] at h
     split at h
     ·simp only [Option.bind_eq_some_iff] at h
      obtain ⟨t1,e1,h⟩:=h
      split at h
      ·simp only [Option.map_eq_some_iff] at h
       obtain ⟨t2,e2,_⟩:=h
       rcases List.mem_cons.1 hf' with rfl | hf'
       ·exact ⟨t1,e1⟩
       ·exact ih _ _ e2 f' hf'
      ·cases h
     ·cases h
   split at hx
   ·rename_i hc
    rw [if_pos hc]
    simp only [Option.map_eq_some_iff] at hx ⊢
    obtain ⟨xs,hx,rfl⟩:=hx
    refine ⟨xs,mapM_carry hx fun f y hf _ hv=>?_,rfl⟩
    obtain ⟨t1,e1⟩:=each _ _ _ h1 f hf
    exact JU n deep _ _ e1 _ _ _ hv
   ·cases hx
  ·cases h
inductive kR where
 | one (ty : Ty)
 | agg (tys : List Ty)
inductive ow : kR→X→Prop
 | one {ty x} : gT ty x→ow (.one ty) x
 | agg {tys : List Ty} {l : List X} : l.length = tys.length→(∀ (j : Nat) ty x,tys[j]? = some ty→l[j]? = some x→gT ty x)→ow (.agg tys) (.agg l)
def qx (P : Program) (t : TypeId) : Option kR:=match P.underlying t with
 | some (.struct _)=>(iz P 20 true t).map .agg
 | some .bool=>some (.one .bool)
 | some (.int k)=>some (.one (.int k))
 | some .string=>some (.one .str)
 | some (.slice _)=>(iz P 20 true t).bind fun
  | [ty]=>some (.one ty)
  | _=>none
 | _=>none
theorem KL {c : C} (h1 : c.cell) (h2 : c.cA) : c.bare:=by
 cases c <;> first | trivial | exact h2.elim
structure Kq (w : World) (a : kR) (v : Value) (c : C) : Prop where
 val : c.val = v
 ok : c.ok w (Zf (fun b _=>b < w.heap.size) fun _ _=>False)
 bare : c.bare
 fp : ∀ b k,¬ c.fp b k
 v8 : ow a c.er
theorem Bu {ty : Ty} {cs : List Value} {Cs : List C} {v : Value} (h : jG w [ty] cs Cs) (e : cs = [v]) : ∃ c,Kq w (.one ty) v c:=by
 subst e
 match Cs,h with
 | [c],⟨h1,h2,_⟩=>exact ⟨c,h1,h2.ok,KL h2.cell h2.cA,h2.fp,.one h2.v8⟩
theorem SZ {r : Reach} {base : Nat} {t : TypeId} {v : Value} {d : DataW H} {p : List MemPlace} {a : kR} (ha : qx P t = some a) (hv : Value.okWide P w r base t v) (hd : DataW.Trod enc P w 0 sp held t v d p) : ∃ c,Kq w a v c:=by
 obtain ⟨fuel,hf⟩:=hd
 unfold qx at ha
 split at ha
 ·rename_i fs hu
  simp only [Option.map_eq_some_iff] at ha
  obtain ⟨ts,ht,rfl⟩:=ha
  unfold Value.okWide at hv
  rw [hu] at hv
  obtain ⟨cs,rfl,_,ts',_,_,hcell⟩:=hv
  obtain ⟨Cs,hC⟩:=trod_good _ _ _ _ ht _ _ _ hf
  obtain ⟨l1,l2,l3⟩:=MP hC
  have gu : ∀ j,j < Cs.length→∃ ty,ts[j]? = some ty∧Az w ty (Cs.getD j (.dead undef)):=fun j hj=>by
   obtain ⟨ty,c,a1,a2,a3,a4⟩:=GG hC (j:=j) (by omega)
   exact ⟨ty,a1,by rw [List.getD_eq_getElem?_getD,a2]; exact a4⟩
  refine ⟨.agg Cs.length fun j=>Cs.getD j (.dead undef),?_,⟨fun j hj=>?_,fun j hj b k hf=>?_⟩,fun j hj=>?_,fun b k ⟨j,hj,hf⟩=>?_,?_⟩
  ·show Value.agg _ = _
   congr 1
   apply Array.ext'
   show (List.range Cs.length).map (fun j=>(Cs.getD j (.dead undef)).val) = cs.toList
   have : (Value.agg cs).cells.toList = cs.toList:=rfl
   rw [← this,l3]
   letI : Bs:=⟨w⟩
   exact kI Cs _ C.val
  ·obtain ⟨_,_,h⟩:=gu j hj; exact ⟨h.cell,h.ok⟩
  ·obtain ⟨_,_,h⟩:=gu j hj; exact (h.fp b k hf).elim
  ·obtain ⟨_,_,h⟩:=gu j hj; exact KL h.cell h.cA
  ·obtain ⟨_,_,h⟩:=gu j hj; exact h.fp b k hf
  ·refine ow.agg (by simpa using l2) fun j ty x hty hx=>?_
   have hj : j < Cs.length:=by
    rcases Nat.lt_or_ge j Cs.length with h | h
    ·exact h
    ·rw [List.getElem?_eq_none (by simpa using h)] at hx; cases hx
   obtain ⟨ty',e1,h⟩:=gu j hj
   rw [e1] at hty
   cases hty
   rw [List.getElem?_map,List.getElem?_range hj] at hx
   simp only [Option.map_some,Option.some.injEq] at hx
   subst hx
   exact h.v8
 ·rename_i hu
  cases ha
  obtain ⟨Cs,hC⟩:=trod_good 1 true t [.bool] (by simp [iz,hu]) _ _ _ hf
  obtain ⟨b,hb,_⟩:=DataW.trod_bool hu hf
  exact Bu hC (v:=v) (by
   unfold Value.okWide at hv; rw [hu] at hv
   unfold Cell.okWide at hv; rw [hu] at hv; unfold Cell.ok at hv; rw [hu] at hv
   cases v <;> first | rfl | (simp at hv; done))
 ·rename_i k hu
  cases ha
  obtain ⟨m,hb,_⟩:=DataW.trod_int hu hf
  obtain ⟨Cs,hC⟩:=trod_good 1 true t [.int k] (by simp [iz,hu]) _ _ _ hf
  exact Bu hC (v:=v) (by
   unfold Value.okWide at hv; rw [hu] at hv
   unfold Cell.okWide at hv; rw [hu] at hv; unfold Cell.ok at hv; rw [hu] at hv
   cases v <;> first | rfl | (simp at hv; done))
 ·rename_i hu
  cases ha
  obtain ⟨m,hb,_⟩:=DataW.trod_string hu hf
  obtain ⟨Cs,hC⟩:=trod_good 1 true t [.str] (by simp [iz,hu]) _ _ _ hf
  exact Bu hC (v:=v) (by
   unfold Value.okWide at hv; rw [hu] at hv
   unfold Cell.okWide at hv; rw [hu] at hv; unfold Cell.ok at hv; rw [hu] at hv
   cases v <;> first | rfl | (simp at hv; done))
 ·rename_i e hu
  simp only [Option.bind_eq_some_iff] at ha
  obtain ⟨ts,ht,ha⟩:=ha
  split at ha
  ·rename_i ty
   cases ha
   have hc : Cell.okWide P w r base t v:=by unfold Value.okWide at hv; rw [hu] at hv; exact hv
   have hv1 : v.cells.toList = [v]:=by
    unfold Cell.okWide at hc; rw [hu] at hc; unfold Cell.ok at hc; rw [hu] at hc
    cases v <;> first | rfl | (simp at hc; done)
   obtain ⟨Cs,hC⟩:=trod_good _ _ _ _ ht _ _ _ hf
   exact Bu hC hv1
  ·cases ha
 ·cases ha
def sF : List kR→List X→Prop
 | [],[]=>True
 | a :: as,x :: xs=>ow a x∧sF as xs
 | _,_=>False
theorem KF {r : Reach} {base : Nat} : ∀ {ts : List TypeId} {as : List kR} {vs : List Value} {ds : List (DataW H)} {p : List MemPlace},ts.map (qx P) = as.map some →
  (∀ (j : Nat) t v,ts[j]? = some t→vs[j]? = some v→Value.okWide P w r base t v)→DataW.TrodAll enc P w 0 sp held ts vs ds p →
  ∃ cs : List C,cs.map C.val = vs∧(∀ c∈cs,c.ok w (Zf (fun b _=>b < w.heap.size) fun _ _=>False)∧c.bare∧∀ b k,¬ c.fp b k)∧sF as (cs.map C.er)
 | [],[],[],[],_,_,_,_=>⟨[],rfl,fun _ h=>(by cases h),trivial⟩
 | t :: ts,a :: as,v :: vs,d :: ds,_,ha,hv,⟨p,q,h1,h2,_⟩=>by
  simp only [List.map_cons,List.cons.injEq] at ha
  obtain ⟨c,hc⟩:=SZ ha.1 (hv 0 t v rfl rfl) h1
  obtain ⟨cs,e1,e2,e3⟩:=KF ha.2 (fun j t' v' ht dH=>hv (j + 1) t' v' (by simpa using ht) (by simpa using dH)) h2
  refine ⟨c :: cs,by simp [hc.val,e1],fun x hx=>?_,⟨hc.v8,e3⟩⟩
  rcases List.mem_cons.1 hx with rfl | hx
  ·exact ⟨hc.ok,hc.bare,hc.fp⟩
  ·exact e2 x hx
theorem ajb {r : Reach} {base : Nat} {ts : List TypeId} {as : List kR} {vs : List Value} {ds : List (DataW H)} {p : List MemPlace} {f : FuncId} (ha : ts.map (qx P) = as.map some)
  (hv : ∀ (j : Nat) t v,ts[j]? = some t→vs[j]? = some v→Value.okWide P w r base t v) (hd : DataW.TrodAll enc P w 0 sp held ts vs ds p)
  (Z3 : ∀ xs,sF as xs→@AC ⟨w⟩ P f xs fun r _=>r = .bool true) : Calls P f vs.toArray w fun e w'=>e = .returned (.bool true)∧Below w.heap.size w w':=by
 obtain ⟨cs,rfl,hcs,hc⟩:=KF ha hv hd
 refine (Z3 _ hc w (fun b _=>b < w.heap.size) (fun _ _=>False) cs rfl ⟨fun x hx=>(hcs x hx).1,fun x hx=>(hcs x hx).2.1,fun x hx b k hf=>((hcs x hx).2.2 b k hf).elim,fun b k h=>h.elim id False.elim,?_⟩ fun b hb=>⟨rfl,fun k=>.inl hb⟩).mono fun e w' ⟨r,ps,aD,hD,hr⟩=>?_
 ·refine List.pairwise_iff_getElem.2 fun i j hi hj _ b k hf=>((hcs _ (List.getElem_mem hi)).2.2 b k hf).elim
 ·letI : Bs:=⟨w⟩
  have hr':=oT hr
  subst hr'
  exact ⟨hD.ends,(hD.ext.mono (S':=fun _ _=>False) fun b k ⟨x,hx,hf⟩ _=>(hcs x hx).2.2 b k hf).below⟩
theorem SY {t : TypeId} {a : kR} (h : qx P t = some a) : ∃ n deep ts,iz P n deep t = some ts:=by
 unfold qx at h
 split at h
 ·simp only [Option.map_eq_some_iff] at h
  obtain ⟨ts,ht,_⟩:=h
  exact ⟨_,_,ts,ht⟩
 ·rename_i hu; exact ⟨1,true,[.bool],by simp [iz,hu]⟩
 ·rename_i k hu; exact ⟨1,true,[.int k],by simp [iz,hu]⟩
 ·rename_i hu; exact ⟨1,true,[.str],by simp [iz,hu]⟩
 ·simp only [Option.bind_eq_some_iff] at h
  obtain ⟨ts,ht,_⟩:=h
  exact ⟨_,_,ts,ht⟩
 ·cases h
theorem aia {w' : World} (hb : Below w.heap.size w w') : ∀ {ts : List TypeId} {as : List kR} {vs : List Value} {ds : List (DataW H)} {p : List MemPlace},ts.map (qx P) = as.map some →
  DataW.TrodAll enc P w 0 (fun _=>true) held ts vs ds p→DataW.TrodAll enc P w' 0 (fun b=>decide (b < w.heap.size)) held ts vs ds p
 | [],[],[],[],_,_,h=>h
 | t :: ts,a :: as,v :: vs,d :: ds,_,ha,⟨p,q,⟨fuel,h1⟩,h2,e⟩=>by
  simp only [List.map_cons,List.cons.injEq] at ha
  obtain ⟨n,deep,tt,ht⟩:=SY ha.1
  have h3:=JU n deep t tt ht _ _ _ h1
  exact ⟨p,q,⟨fuel,DataW.trod_carry _ _ _ _ h3 fun m hm=>hb.same (DataW.trod_lt _ _ _ _ h3 m hm)⟩,aia hb ha.2 h2,e⟩
end
end M
namespace M
open Go
def cV (ts : List Ty) (r : List X) : Prop:=r.length = ts.length∧∀ (j : Nat) ty x,ts[j]? = some ty→r[j]? = some x→gT ty x
theorem cV.nil {r : List X} (h : cV [] r) : r = []:=List.length_eq_zero_iff.1 h.1
theorem cV.cons {ty : Ty} {ts : List Ty} {r : List X} (h : cV (ty :: ts) r) : ∃ x r',r = x :: r'∧gT ty x∧cV ts r':=by
 obtain ⟨h1,h2⟩:=h
 cases r with
 | nil=>cases h1
 | cons x r=>exact ⟨x,r,rfl,h2 0 ty x rfl rfl,by simpa using h1,fun j ty x ht hx=>h2 (j + 1) ty x (by simpa using ht) (by simpa using hx)⟩
theorem ki {x : X} (h : gT .str x) : ∃ s : ag,x = .str ⟨s.toArray⟩∧s.length≤9223372036854775807:=by
 cases h with
 | str h=>rename_i s; exact ⟨s.data.toList,by simp,by rw [Array.length_toList]; exact h⟩
theorem VP {x : X} (h : gT .bool x) : ∃ b,x = .bool b:=by cases h; exact ⟨_,rfl⟩
theorem Th {n : Int} (h : (Lit.int .i64 n).wf = true) : -9223372036854775808≤n∧n≤9223372036854775807:=by
 have h' : (decide (IntKind.i64.min≤n) && decide (n≤IntKind.i64.max)) = true:=h
 rw [Bool.and_eq_true,decide_eq_true_eq,decide_eq_true_eq] at h'
 exact h'
theorem gX {x : X} (h : gT (.int .i64) x) : ∃ n : Int,x = .int .i64 n∧-9223372036854775808≤n∧n≤9223372036854775807:=by
 cases h with
 | int h =>
  rename_i n
  refine ⟨n,rfl,?_⟩
  exact Th h
theorem N3 {α : Type} {e : α→List X} {ok : α→Prop} : ∀ {xs : List (List X)},(∀ r∈xs,∃ a,r = e a∧ok a)→∃ l : List α,xs = l.map e∧∀ a∈l,ok a
 | [],_=>⟨[],rfl,fun _ h=>by cases h⟩
 | r :: xs,h=>by
  obtain ⟨a,e1,e2⟩:=h r (List.mem_cons_self ..)
  obtain ⟨l,e3,e4⟩:=N3 (fun r hr=>h r (List.mem_cons_of_mem _ hr))
  refine ⟨a :: l,by simp [e1,e3],fun b hb=>?_⟩
  rcases List.mem_cons.1 hb with rfl | hb
  ·exact e2
  ·exact e4 b hb
theorem kg {α : Type} (e : α→List X) (ok : α→Prop) {ts : List Ty} {x : X} (h : gT (.row ts) x) (hr : ∀ r,cV ts r→∃ a,r = e a∧ok a) : ∃ l : List α,x = .row .sl ts.length (l.map e)∧l.length≤9223372036854775807∧∀ a∈l,ok a:=by
 cases h with
 | row h1 h2 h3 =>
  rename_i xs
  obtain ⟨l,rfl,hl⟩:=N3 (e:=e) (ok:=ok) (xs:=xs) fun r hr'=>hr r ⟨h2 r hr',h3 r hr'⟩
  rw [List.length_map] at h1
  exact ⟨l,rfl,h1,hl⟩
theorem VF {tys : List Ty} {x : X} (h : ow (.agg tys) x) : ∃ l,x = .agg l∧cV tys l:=by
 cases h with
 | agg h1 h2=>exact ⟨_,rfl,h1,h2⟩
theorem ajH {a : kR} {as : List kR} {xs : List X} (h : sF (a :: as) xs) : ∃ x xs',xs = x :: xs'∧ow a x∧sF as xs':=by
 match xs,h with
 | x :: xs',⟨h1,h2⟩=>exact ⟨x,xs',rfl,h1,h2⟩
theorem ajI {xs : List X} (h : sF [] xs) : xs = []:=by
 match xs,h with
 | [],_=>rfl
structure aiH (d : aW) : Prop where
 hb : d.cells.length≤9223372036854775807
 hs : ∀ s∈d.cells,s.length≤9223372036854775807
 hb' : d.pending.length≤9223372036854775807
 hs' : ∀ s∈d.pending,s.text.length≤9223372036854775807
 hi : ∀ s∈d.pending,-9223372036854775808≤s.at_∧s.at_≤9223372036854775807
end M
namespace M
open Go
end M
namespace M
open Go
theorem P6 (m : Nat) (h : m < 256) : qo [[.int .u8 (m : Int)]] = some [UInt8.ofNat m]:=by
 have:=P5 [UInt8.ofNat m]
 have e : ((UInt8.ofNat m).toNat : Int) = m:=by
  rw [UInt8.toNat_ofNat']
  omega
 simp only [List.map_cons,List.map_nil,e] at this
 exact this
theorem J3 {n : Int} (h1 : 0≤n) (h2 : n < 256) : IntKind.u8.wrap n = n:=by
 simp only [IntKind.wrap,IntKind.signed,IntKind.bits,Bool.false_and,Bool.false_eq_true,if_false]
 omega
def aT (n : Nat) : ag:=Lib.decDigits n
theorem Oe : ∀ (n : Nat) (out : ag),n≠0→nS n out = aT n ++ out:=by
 intro n
 induction n using Nat.strongRecOn with
 | ind n ih =>
  intro out h
  unfold nS aT
  rw [dif_neg h,Lib.decDigits]
  by_cases h1 : n < 10
  ·have e : n / 10 = 0:=by omega
   have e2 : n % 10 = n:=by omega
   rw [dif_pos h1,e,e2]
   unfold nS
   rw [dif_pos rfl]
   rfl
  ·rw [dif_neg h1,ih (n / 10) (by omega) _ (by omega)]
   unfold aT
   rw [List.append_assoc]
   rfl
theorem A8 : aT 0 = [48]:=by unfold aT; rw [Lib.decDigits]; rfl
theorem oP (k : Nat) : ∀ (n : Nat),n < 10 ^ (k + 1)→(aT n).length≤k + 1:=by
 induction k with
 | zero =>
  intro n h
  unfold aT
  rw [Lib.decDigits,dif_pos (by simpa using h)]
  simp
 | succ k ih =>
  intro n h
  unfold aT
  rw [Lib.decDigits]
  by_cases h1 : n < 10
  ·rw [dif_pos h1]; simp
  ·rw [dif_neg h1,List.length_append]
   have:=ih (n / 10) (by rw [Nat.pow_succ] at h; omega)
   unfold aT at this
   simp only [List.length_cons,List.length_nil]
   omega
theorem HI (n : Nat) : Lib.itoa (n : Int) = aT n:=by
 unfold Lib.itoa aT
 rw [if_neg (by omega)]
 rfl
def xO : List X→Option X
 | [.int .i64 n]=>if -9223372036854775808≤n∧n≤9223372036854775807 then some (.str ⟨(Go.Lib.itoa n).toArray⟩) else none
 | _=>none
theorem aa8 (f : FuncId) (n : Nat) (h : n < 10 ^ 18) : iP f xO f [.int .i64 (n : Int)] = some (.str ⟨(aT n).toArray⟩,[.dead]):=by
 have h1 : (n : Int)≤9223372036854775807:=by omega
 have h2:=oP 17 n (by omega)
 simp [iP,xO,HI,scalar,Aa,h1]
 omega
end M
namespace M
open Go
def wS (s : ag) : Nat:=s.length
def wO {α : Type} (_ : α) : Nat:=0
def wL {α : Type} (w : α→Nat) (l : List α) : Nat:=l.length + (l.map w).sum
theorem ew {α : Type} {w : α→Nat} : ∀ {l : List α} {a : α},a∈l→w a≤wL w l
 | b :: l,a,h=>by
  rcases List.mem_cons.1 h with rfl | h
  ·simp [wL]; omega
  ·have:=ew (w:=w) h
   simp [wL] at this ⊢; omega
theorem aY {α : Type} {w : α→Nat} (l : List α) : l.length≤wL w l:=by unfold wL; omega
def az (n : Int) (w : Nat) : Int:=if (w : Int)≤n then n - w else -1
theorem bG (n : Int) (w : Nat) : ((w : Int)≤n∧az n w = n - w)∨(n < (w : Int)∧az n w = -1):=by
 unfold az
 split
 ·exact .inl ⟨by assumption,rfl⟩
 ·exact .inr ⟨by omega,rfl⟩
theorem ql (w : Nat) (n : Int) : az n w≤n∨az n w < 0:=by have:=bG n w; omega
theorem om {α : Type} (w : α→Nat) : ∀ (l : List α) (n : Int),0≤n→dU (fun b n=>az n (w b)) l n = az n (l.map w).sum
 | [],n,h=>by simp [dU,az,h]
 | b :: l,n,h=>by
  simp only [dU,List.map_cons,List.sum_cons]
  rcases bG n (w b) with ⟨h1,h2⟩ | ⟨h1,h2⟩
  ·rw [if_neg (by omega),om w l _ (by omega),h2]
   rcases bG (n - w b) (l.map w).sum with ⟨h3,h4⟩ | ⟨h3,h4⟩ <;> rcases bG n (w b + (l.map w).sum) with ⟨h5,h6⟩ | ⟨h5,h6⟩ <;> omega
  ·rw [if_pos (by omega)]
   rcases bG n (w b + (l.map w).sum) with ⟨h5,h6⟩ | ⟨h5,h6⟩ <;> omega
def bI (n : Int) : Prop:=-9223372036854775808≤n∧n≤9223372036854775807
def bS (s : ag) : Prop:=s.length≤9223372036854775807
def bB (_ : Bool) : Prop:=True
def bL {α : Type} (b : α→Prop) (l : List α) : Prop:=l.length≤9223372036854775807∧∀ a∈l,b a
@[simp] def eI (n : Int) : List X:=[.int .i64 n]
@[simp] theorem ak2 (m : Md) (l : List Int) : X.bO m (l.map eI) = l.map eI:=by induction l <;> simp_all [X.bO,X.dz,X.md]
@[simp] theorem ajl (l : List Int) : X.clean.bw (l.map eI) = true:=by induction l <;> simp_all [X.clean.bw,X.clean.ck,X.clean]
structure aF where
 name : ag
 value : ag
 deriving DecidableEq
@[simp] def aG (a : aF) : List X:=[.str ⟨(a.name).toArray⟩,.str ⟨(a.value).toArray⟩]
@[simp] theorem ak1 (m : Md) (l : List aF) : X.bO m (l.map aG) = l.map aG:=by induction l <;> simp_all [X.bO,X.dz,X.md]
@[simp] theorem ajk (l : List aF) : X.clean.bw (l.map aG) = true:=by induction l <;> simp_all [X.clean.bw,X.clean.ck,X.clean]
def aJ (a : aF) : Nat:=a.name.length + a.value.length
structure oE (x : aF) : Prop where
 abi : bS x.name
 abt : bS x.value
theorem VW (a b : aF) : decide (a = b) = (decide (a.name = b.name) && decide (a.value = b.value)):=by
 cases a; cases b; simp [Bool.and_assoc]
structure bP where
 status : Int
 fields : List aF
 body : ag
 deriving DecidableEq
@[simp] def gG (m : Md) (a : bP) : List X:=[.int .i64 a.status,.row m 2 ((a.fields).map aG),.str ⟨(a.body).toArray⟩]
@[simp] theorem ak7 (m m' : Md) (l : List bP) : X.bO m (l.map (gG m')) = l.map (gG m):=by induction l <;> simp_all [X.bO,X.dz,X.md]
@[simp] theorem ajq (l : List bP) : X.clean.bw (l.map (gG .own)) = true:=by induction l <;> simp_all [X.clean.bw,X.clean.ck,X.clean]
@[simp] theorem ajD (l : List bP) : X.clean.bw (l.map (gG .sl)) = true:=by induction l <;> simp_all [X.clean.bw,X.clean.ck,X.clean]
def bp (a : bP) : Nat:=wL aJ a.fields + a.body.length
structure sO (x : bP) : Prop where
 akM : bI x.status
 HK : (bL oE) x.fields
 HJ : bS x.body
theorem V1 (a b : bP) : decide (a = b) = (decide (a.status = b.status) && decide (a.fields = b.fields) && decide (a.body = b.body)):=by
 cases a; cases b; simp [Bool.and_assoc]
structure Rq where
 method : Int
 path : ag
 fields : List aF
 body : ag
 deriving DecidableEq
@[simp] def gY (m : Md) (a : Rq) : List X:=[.int .i64 a.method,.str ⟨(a.path).toArray⟩,.row m 2 ((a.fields).map aG),.str ⟨(a.body).toArray⟩]
@[simp] theorem ak6 (m m' : Md) (l : List Rq) : X.bO m (l.map (gY m')) = l.map (gY m):=by induction l <;> simp_all [X.bO,X.dz,X.md]
@[simp] theorem ajp (l : List Rq) : X.clean.bw (l.map (gY .own)) = true:=by induction l <;> simp_all [X.clean.bw,X.clean.ck,X.clean]
@[simp] theorem ajC (l : List Rq) : X.clean.bw (l.map (gY .sl)) = true:=by induction l <;> simp_all [X.clean.bw,X.clean.ck,X.clean]
def cq (a : Rq) : Nat:=a.path.length + wL aJ a.fields + a.body.length
structure sN (x : Rq) : Prop where
 akJ : bI x.method
 HM : bS x.path
 HK : (bL oE) x.fields
 HJ : bS x.body
theorem V0 (a b : Rq) : decide (a = b) = (decide (a.method = b.method) && decide (a.path = b.path) && decide (a.fields = b.fields) && decide (a.body = b.body)):=by
 cases a; cases b; simp [Bool.and_assoc]
structure Ob where
 path : ag
 names : List ag
 values : List ag
 resp : bP
 t : Int
 deriving DecidableEq
@[simp] def bn (m : Md) (a : Ob) : List X:=[.str ⟨(a.path).toArray⟩,.row m 1 ((a.names).map eS),.row m 1 ((a.values).map eS),.int .i64 a.resp.status,.row m 2 ((a.resp.fields).map aG),.str ⟨(a.resp.body).toArray⟩,.int .i64 a.t]
@[simp] theorem ak4 (m m' : Md) (l : List Ob) : X.bO m (l.map (bn m')) = l.map (bn m):=by induction l <;> simp_all [X.bO,X.dz,X.md]
@[simp] theorem ajn (l : List Ob) : X.clean.bw (l.map (bn .own)) = true:=by induction l <;> simp_all [X.clean.bw,X.clean.ck,X.clean]
@[simp] theorem ajA (l : List Ob) : X.clean.bw (l.map (bn .sl)) = true:=by induction l <;> simp_all [X.clean.bw,X.clean.ck,X.clean]
def aV (a : Ob) : Nat:=a.path.length + wL wS a.names + wL wS a.values + bp a.resp
structure vT (x : Ob) : Prop where
 HM : bS x.path
 abj : (bL bS) x.names
 abu : (bL bS) x.values
 tY : sO x.resp
 HN : bI x.t
theorem VY (a b : Ob) : decide (a = b) = (decide (a.path = b.path) && decide (a.names = b.names) && decide (a.values = b.values) && decide (a.resp = b.resp) && decide (a.t = b.t)):=by
 cases a; cases b; simp [Bool.and_assoc]
structure Kp where
 obj : Ob
 at_ : Int
 seq : Int
 deriving DecidableEq
@[simp] def aB (m : Md) (a : Kp) : List X:=[.str ⟨(a.obj.path).toArray⟩,.row m 1 ((a.obj.names).map eS),.row m 1 ((a.obj.values).map eS),.int .i64 a.obj.resp.status,.row m 2 ((a.obj.resp.fields).map aG),.str ⟨(a.obj.resp.body).toArray⟩,.int .i64 a.obj.t,.int .i64 a.at_,.int .i64 a.seq]
@[simp] theorem ak3 (m m' : Md) (l : List Kp) : X.bO m (l.map (aB m')) = l.map (aB m):=by induction l <;> simp_all [X.bO,X.dz,X.md]
@[simp] theorem ajm (l : List Kp) : X.clean.bw (l.map (aB .own)) = true:=by induction l <;> simp_all [X.clean.bw,X.clean.ck,X.clean]
@[simp] theorem ajz (l : List Kp) : X.clean.bw (l.map (aB .sl)) = true:=by induction l <;> simp_all [X.clean.bw,X.clean.ck,X.clean]
def bE (a : Kp) : Nat:=aV a.obj
structure sL (x : Kp) : Prop where
 HL : vT x.obj
 abb : bI x.at_
 abp : bI x.seq
theorem VX (a b : Kp) : decide (a = b) = (decide (a.obj = b.obj) && decide (a.at_ = b.at_) && decide (a.seq = b.seq)):=by
 cases a; cases b; simp [Bool.and_assoc]
def bR (a : Wr) : Nat:=a.text.length
structure sQ (x : Wr) : Prop where
 abb : bI x.at_
 abr : bS x.text
theorem V4 (a b : Wr) : decide (a = b) = (decide (a.at_ = b.at_) && decide (a.text = b.text)):=by
 cases a; cases b; simp [Bool.and_assoc]
def bY (a : aW) : Nat:=wL wS a.cells + wL bR a.pending
structure Fi (x : aW) : Prop where
 abe : (bL bS) x.cells
 abm : (bL sQ) x.pending
theorem VU (a b : aW) : decide (a = b) = (decide (a.cells = b.cells) && decide (a.pending = b.pending)):=by
 cases a; cases b; simp [Bool.and_assoc]
structure Bn where
 kind : Int
 a : ag
 b : ag
 t : Int
 deriving DecidableEq
@[simp] def aS (a : Bn) : List X:=[.int .i64 a.kind,.str ⟨(a.a).toArray⟩,.str ⟨(a.b).toArray⟩,.int .i64 a.t]
@[simp] theorem akX (m : Md) (l : List Bn) : X.bO m (l.map aS) = l.map aS:=by induction l <;> simp_all [X.bO,X.dz,X.md]
@[simp] theorem ajg (l : List Bn) : X.clean.bw (l.map aS) = true:=by induction l <;> simp_all [X.clean.bw,X.clean.ck,X.clean]
def aR (a : Bn) : Nat:=a.a.length + a.b.length
structure qA (x : Bn) : Prop where
 NP : bI x.kind
 NN : bS x.a
 k_b : bS x.b
 HN : bI x.t
theorem VS (a b : Bn) : decide (a = b) = (decide (a.kind = b.kind) && decide (a.a = b.a) && decide (a.b = b.b) && decide (a.t = b.t)):=by
 cases a; cases b; simp [Bool.and_assoc]
structure Sh where
 aL : aW
 av : List Kp
 aQ : List Bn
 next : Int
 seq : Int
 deriving DecidableEq
@[simp] def aH (m : Md) (a : Sh) : List X:=[.row m 1 ((a.aL.cells).map eS),.row m 2 ((a.aL.pending).map eW),.row m 9 ((a.av).map (aB m)),.row m 4 ((a.aQ).map aS),.int .i64 a.next,.int .i64 a.seq]
@[simp] theorem ala (m m' : Md) (l : List Sh) : X.bO m (l.map (aH m')) = l.map (aH m):=by induction l <;> simp_all [X.bO,X.dz,X.md]
@[simp] theorem ajt (l : List Sh) : X.clean.bw (l.map (aH .own)) = true:=by induction l <;> simp_all [X.clean.bw,X.clean.ck,X.clean]
@[simp] theorem ajF (l : List Sh) : X.clean.bw (l.map (aH .sl)) = true:=by induction l <;> simp_all [X.clean.bw,X.clean.ck,X.clean]
def bT (a : Sh) : Nat:=bY a.aL + wL bE a.av + wL aR a.aQ
structure Fj (x : Sh) : Prop where
 abg : Fi x.aL
 abk : (bL sL) x.av
 NO : (bL qA) x.aQ
 akK : bI x.next
 abp : bI x.seq
theorem V3 (a b : Sh) : decide (a = b) = (decide (a.aL = b.aL) && decide (a.av = b.av) && decide (a.aQ = b.aQ) && decide (a.next = b.next) && decide (a.seq = b.seq)):=by
 cases a; cases b; simp [Bool.and_assoc]
structure Fl where
 q : Rq
 who : List Int
 old : Ob
 mj : Bool
 deriving DecidableEq
@[simp] def bM (m : Md) (a : Fl) : List X:=[.int .i64 a.q.method,.str ⟨(a.q.path).toArray⟩,.row m 2 ((a.q.fields).map aG),.str ⟨(a.q.body).toArray⟩,.row m 1 ((a.who).map eI),.str ⟨(a.old.path).toArray⟩,.row m 1 ((a.old.names).map eS),.row m 1 ((a.old.values).map eS),.int .i64 a.old.resp.status,.row m 2 ((a.old.resp.fields).map aG),.str ⟨(a.old.resp.body).toArray⟩,.int .i64 a.old.t,.bool a.mj]
@[simp] theorem ak0 (m m' : Md) (l : List Fl) : X.bO m (l.map (bM m')) = l.map (bM m):=by induction l <;> simp_all [X.bO,X.dz,X.md]
@[simp] theorem ajj (l : List Fl) : X.clean.bw (l.map (bM .own)) = true:=by induction l <;> simp_all [X.clean.bw,X.clean.ck,X.clean]
@[simp] theorem ajy (l : List Fl) : X.clean.bw (l.map (bM .sl)) = true:=by induction l <;> simp_all [X.clean.bw,X.clean.ck,X.clean]
def b9 (a : Fl) : Nat:=cq a.q + wL wO a.who + aV a.old
structure sK (x : Fl) : Prop where
 tX : sN x.q
 abv : (bL bI) x.who
 abl : vT x.old
 akH : bB x.mj
theorem VV (a b : Fl) : decide (a = b) = (decide (a.q = b.q) && decide (a.who = b.who) && decide (a.old = b.old) && decide (a.mj = b.mj)):=by
 cases a; cases b; simp [Bool.and_assoc]
structure Se where
 q : Rq
 resp : bP
 t : Int
 deriving DecidableEq
@[simp] def cZ (m : Md) (a : Se) : List X:=[.int .i64 a.q.method,.str ⟨(a.q.path).toArray⟩,.row m 2 ((a.q.fields).map aG),.str ⟨(a.q.body).toArray⟩,.int .i64 a.resp.status,.row m 2 ((a.resp.fields).map aG),.str ⟨(a.resp.body).toArray⟩,.int .i64 a.t]
@[simp] theorem ak9 (m m' : Md) (l : List Se) : X.bO m (l.map (cZ m')) = l.map (cZ m):=by induction l <;> simp_all [X.bO,X.dz,X.md]
@[simp] theorem ajs (l : List Se) : X.clean.bw (l.map (cZ .own)) = true:=by induction l <;> simp_all [X.clean.bw,X.clean.ck,X.clean]
@[simp] theorem ajE (l : List Se) : X.clean.bw (l.map (cZ .sl)) = true:=by induction l <;> simp_all [X.clean.bw,X.clean.ck,X.clean]
def cL (a : Se) : Nat:=cq a.q + bp a.resp
structure sP (x : Se) : Prop where
 tX : sN x.q
 tY : sO x.resp
 HN : bI x.t
theorem V2 (a b : Se) : decide (a = b) = (decide (a.q = b.q) && decide (a.resp = b.resp) && decide (a.t = b.t)):=by
 cases a; cases b; simp [Bool.and_assoc]
structure Rp where
 client : Int
 q : Rq
 resp : bP
 kind : Int
 t : Int
 obj : Ob
 aQ : Int
 deriving DecidableEq
@[simp] def cY (m : Md) (a : Rp) : List X:=[.int .i64 a.client,.int .i64 a.q.method,.str ⟨(a.q.path).toArray⟩,.row m 2 ((a.q.fields).map aG),.str ⟨(a.q.body).toArray⟩,.int .i64 a.resp.status,.row m 2 ((a.resp.fields).map aG),.str ⟨(a.resp.body).toArray⟩,.int .i64 a.kind,.int .i64 a.t,.str ⟨(a.obj.path).toArray⟩,.row m 1 ((a.obj.names).map eS),.row m 1 ((a.obj.values).map eS),.int .i64 a.obj.resp.status,.row m 2 ((a.obj.resp.fields).map aG),.str ⟨(a.obj.resp.body).toArray⟩,.int .i64 a.obj.t,.int .i64 a.aQ]
@[simp] theorem ak5 (m m' : Md) (l : List Rp) : X.bO m (l.map (cY m')) = l.map (cY m):=by induction l <;> simp_all [X.bO,X.dz,X.md]
@[simp] theorem ajo (l : List Rp) : X.clean.bw (l.map (cY .own)) = true:=by induction l <;> simp_all [X.clean.bw,X.clean.ck,X.clean]
@[simp] theorem ajB (l : List Rp) : X.clean.bw (l.map (cY .sl)) = true:=by induction l <;> simp_all [X.clean.bw,X.clean.ck,X.clean]
def cJ (a : Rp) : Nat:=cq a.q + bp a.resp + aV a.obj
structure sM (x : Rp) : Prop where
 abf : bI x.client
 tX : sN x.q
 tY : sO x.resp
 NP : bI x.kind
 HN : bI x.t
 HL : vT x.obj
 NO : bI x.aQ
theorem VZ (a b : Rp) : decide (a = b) = (decide (a.client = b.client) && decide (a.q = b.q) && decide (a.resp = b.resp) && decide (a.kind = b.kind) && decide (a.t = b.t) && decide (a.obj = b.obj) && decide (a.aQ = b.aQ)):=by
 cases a; cases b; simp [Bool.and_assoc]
structure Ca where
 aE : Sh
 bD : List Fl
 now : Int
 seen : List Se
 sent : List Rp
 deriving DecidableEq
@[simp] def en (m : Md) (a : Ca) : List X:=[.row m 1 ((a.aE.aL.cells).map eS),.row m 2 ((a.aE.aL.pending).map eW),.row m 9 ((a.aE.av).map (aB m)),.row m 4 ((a.aE.aQ).map aS),.int .i64 a.aE.next,.int .i64 a.aE.seq,.row m 13 ((a.bD).map (bM m)),.int .i64 a.now,.row m 8 ((a.seen).map (cZ m)),.row m 18 ((a.sent).map (cY m))]
@[simp] theorem akY (m m' : Md) (l : List Ca) : X.bO m (l.map (en m')) = l.map (en m):=by induction l <;> simp_all [X.bO,X.dz,X.md]
@[simp] theorem ajh (l : List Ca) : X.clean.bw (l.map (en .own)) = true:=by induction l <;> simp_all [X.clean.bw,X.clean.ck,X.clean]
@[simp] theorem ajw (l : List Ca) : X.clean.bw (l.map (en .sl)) = true:=by induction l <;> simp_all [X.clean.bw,X.clean.ck,X.clean]
def dn (a : Ca) : Nat:=bT a.aE + wL b9 a.bD + wL cL a.seen + wL cJ a.sent
structure AK (x : Ca) : Prop where
 abq : Fj x.aE
 abh : (bL sK) x.bD
 akL : bI x.now
 abn : (bL sP) x.seen
 abo : (bL sM) x.sent
theorem VT (a b : Ca) : decide (a = b) = (decide (a.aE = b.aE) && decide (a.bD = b.bD) && decide (a.now = b.now) && decide (a.seen = b.seen) && decide (a.sent = b.sent)):=by
 cases a; cases b; simp [Bool.and_assoc]
structure De where
 kind : Int
 client : Int
 q : Rq
 a : Int
 resp : bP
 oF : Bn
 keep : List Bool
 deriving DecidableEq
@[simp] def A9 (m : Md) (a : De) : List X:=[.int .i64 a.kind,.int .i64 a.client,.int .i64 a.q.method,.str ⟨(a.q.path).toArray⟩,.row m 2 ((a.q.fields).map aG),.str ⟨(a.q.body).toArray⟩,.int .i64 a.a,.int .i64 a.resp.status,.row m 2 ((a.resp.fields).map aG),.str ⟨(a.resp.body).toArray⟩,.int .i64 a.oF.kind,.str ⟨(a.oF.a).toArray⟩,.str ⟨(a.oF.b).toArray⟩,.int .i64 a.oF.t,.row m 1 ((a.keep).map eB)]
@[simp] theorem akZ (m m' : Md) (l : List De) : X.bO m (l.map (A9 m')) = l.map (A9 m):=by induction l <;> simp_all [X.bO,X.dz,X.md]
@[simp] theorem aji (l : List De) : X.clean.bw (l.map (A9 .own)) = true:=by induction l <;> simp_all [X.clean.bw,X.clean.ck,X.clean]
@[simp] theorem ajx (l : List De) : X.clean.bw (l.map (A9 .sl)) = true:=by induction l <;> simp_all [X.clean.bw,X.clean.ck,X.clean]
structure bDe (x : De) : Prop where
 NP : bI x.kind
 abf : bI x.client
 tX : sN x.q
 NN : bI x.a
 tY : sO x.resp
 akG : qA x.oF
 akI : (bL bB) x.keep
theorem LL {ts : List Ty} {l : List X} (h : cV ([.str,.str] ++ ts) l) : ∃ (a : aF) (l' : List X),l = aG a ++ l'∧oE a∧cV ts l':=by
 simp only [List.cons_append,List.nil_append] at h
 obtain ⟨y1,r1,rfl,c1,h1⟩:=h.cons
 obtain ⟨a1,rfl,b1⟩:=ki c1
 obtain ⟨y2,r2,rfl,c2,h2⟩:=h1.cons
 obtain ⟨a2,rfl,b2⟩:=ki c2
 exact ⟨⟨a1,a2⟩,r2,by simp,⟨b1,b2⟩,h2⟩
theorem F9 {ts : List Ty} {l : List X} (h : cV ([.int .i64,.row [.str,.str],.str] ++ ts) l) : ∃ (a : bP) (l' : List X),l = gG .sl a ++ l'∧sO a∧cV ts l':=by
 simp only [List.cons_append,List.nil_append] at h
 obtain ⟨y1,r1,rfl,c1,h1⟩:=h.cons
 obtain ⟨a1,rfl,b1⟩:=gX c1
 obtain ⟨y2,r2,rfl,c2,h2⟩:=h1.cons
 obtain ⟨a2,rfl,b2⟩:=kg aG oE c2 fun r hr=>by
  obtain ⟨a,l',rfl,h1,h2⟩:=LL (ts:=[]) (by simpa using hr)
  obtain rfl:=h2.nil
  exact ⟨a,by simp,h1⟩
 obtain ⟨y3,r3,rfl,c3,h3⟩:=h2.cons
 obtain ⟨a3,rfl,b3⟩:=ki c3
 exact ⟨⟨a1,a2,a3⟩,r3,by simp,⟨b1,b2,b3⟩,h3⟩
theorem F8 {ts : List Ty} {l : List X} (h : cV ([.int .i64,.str,.row [.str,.str],.str] ++ ts) l) : ∃ (a : Rq) (l' : List X),l = gY .sl a ++ l'∧sN a∧cV ts l':=by
 simp only [List.cons_append,List.nil_append] at h
 obtain ⟨y1,r1,rfl,c1,h1⟩:=h.cons
 obtain ⟨a1,rfl,b1⟩:=gX c1
 obtain ⟨y2,r2,rfl,c2,h2⟩:=h1.cons
 obtain ⟨a2,rfl,b2⟩:=ki c2
 obtain ⟨y3,r3,rfl,c3,h3⟩:=h2.cons
 obtain ⟨a3,rfl,b3⟩:=kg aG oE c3 fun r hr=>by
  obtain ⟨a,l',rfl,h1,h2⟩:=LL (ts:=[]) (by simpa using hr)
  obtain rfl:=h2.nil
  exact ⟨a,by simp,h1⟩
 obtain ⟨y4,r4,rfl,c4,h4⟩:=h3.cons
 obtain ⟨a4,rfl,b4⟩:=ki c4
 exact ⟨⟨a1,a2,a3,a4⟩,r4,by simp,⟨b1,b2,b3,b4⟩,h4⟩
theorem F7 {ts : List Ty} {l : List X} (h : cV ([.str,.row [.str],.row [.str],.int .i64,.row [.str,.str],.str,.int .i64] ++ ts) l) : ∃ (a : Ob) (l' : List X),l = bn .sl a ++ l'∧vT a∧cV ts l':=by
 simp only [List.cons_append,List.nil_append] at h
 obtain ⟨y1,r1,rfl,c1,h1⟩:=h.cons
 obtain ⟨a1,rfl,b1⟩:=ki c1
 obtain ⟨y2,r2,rfl,c2,h2⟩:=h1.cons
 obtain ⟨a2,rfl,b2⟩:=kg eS bS c2 fun r hr=>by
  obtain ⟨x,r',rfl,h1,h2⟩:=hr.cons
  obtain rfl:=h2.nil
  obtain ⟨s,rfl,hs⟩:=ki h1
  exact ⟨s,rfl,hs⟩
 obtain ⟨y3,r3,rfl,c3,h3⟩:=h2.cons
 obtain ⟨a3,rfl,b3⟩:=kg eS bS c3 fun r hr=>by
  obtain ⟨x,r',rfl,h1,h2⟩:=hr.cons
  obtain rfl:=h2.nil
  obtain ⟨s,rfl,hs⟩:=ki h1
  exact ⟨s,rfl,hs⟩
 obtain ⟨a4,r4,rfl,b4,h4⟩:=F9 (ts:=_) h3
 obtain ⟨y5,r5,rfl,c5,h5⟩:=h4.cons
 obtain ⟨a5,rfl,b5⟩:=gX c5
 exact ⟨⟨a1,a2,a3,a4,a5⟩,r5,by simp,⟨b1,b2,b3,b4,b5⟩,h5⟩
theorem VK {ts : List Ty} {l : List X} (h : cV ([.str,.row [.str],.row [.str],.int .i64,.row [.str,.str],.str,.int .i64,.int .i64,.int .i64] ++ ts) l) : ∃ (a : Kp) (l' : List X),l = aB .sl a ++ l'∧sL a∧cV ts l':=by
 simp only [List.cons_append,List.nil_append] at h
 obtain ⟨a1,r1,rfl,b1,h1⟩:=F7 (ts:=_) h
 obtain ⟨y2,r2,rfl,c2,h2⟩:=h1.cons
 obtain ⟨a2,rfl,b2⟩:=gX c2
 obtain ⟨y3,r3,rfl,c3,h3⟩:=h2.cons
 obtain ⟨a3,rfl,b3⟩:=gX c3
 exact ⟨⟨a1,a2,a3⟩,r3,by simp,⟨b1,b2,b3⟩,h3⟩
theorem VO {ts : List Ty} {l : List X} (h : cV ([.int .i64,.str] ++ ts) l) : ∃ (a : Wr) (l' : List X),l = eW a ++ l'∧sQ a∧cV ts l':=by
 simp only [List.cons_append,List.nil_append] at h
 obtain ⟨y1,r1,rfl,c1,h1⟩:=h.cons
 obtain ⟨a1,rfl,b1⟩:=gX c1
 obtain ⟨y2,r2,rfl,c2,h2⟩:=h1.cons
 obtain ⟨a2,rfl,b2⟩:=ki c2
 exact ⟨⟨a1,a2⟩,r2,by simp,⟨b1,b2⟩,h2⟩
theorem VI {ts : List Ty} {l : List X} (h : cV ([.row [.str],.row [.int .i64,.str]] ++ ts) l) : ∃ (a : aW) (l' : List X),l = bH .sl a ++ l'∧Fi a∧cV ts l':=by
 simp only [List.cons_append,List.nil_append] at h
 obtain ⟨y1,r1,rfl,c1,h1⟩:=h.cons
 obtain ⟨a1,rfl,b1⟩:=kg eS bS c1 fun r hr=>by
  obtain ⟨x,r',rfl,h1,h2⟩:=hr.cons
  obtain rfl:=h2.nil
  obtain ⟨s,rfl,hs⟩:=ki h1
  exact ⟨s,rfl,hs⟩
 obtain ⟨y2,r2,rfl,c2,h2⟩:=h1.cons
 obtain ⟨a2,rfl,b2⟩:=kg eW sQ c2 fun r hr=>by
  obtain ⟨a,l',rfl,h1,h2⟩:=VO (ts:=[]) (by simpa using hr)
  obtain rfl:=h2.nil
  exact ⟨a,by simp,h1⟩
 exact ⟨⟨a1,a2⟩,r2,by simp,⟨b1,b2⟩,h2⟩
theorem VG {ts : List Ty} {l : List X} (h : cV ([.int .i64,.str,.str,.int .i64] ++ ts) l) : ∃ (a : Bn) (l' : List X),l = aS a ++ l'∧qA a∧cV ts l':=by
 simp only [List.cons_append,List.nil_append] at h
 obtain ⟨y1,r1,rfl,c1,h1⟩:=h.cons
 obtain ⟨a1,rfl,b1⟩:=gX c1
 obtain ⟨y2,r2,rfl,c2,h2⟩:=h1.cons
 obtain ⟨a2,rfl,b2⟩:=ki c2
 obtain ⟨y3,r3,rfl,c3,h3⟩:=h2.cons
 obtain ⟨a3,rfl,b3⟩:=ki c3
 obtain ⟨y4,r4,rfl,c4,h4⟩:=h3.cons
 obtain ⟨a4,rfl,b4⟩:=gX c4
 exact ⟨⟨a1,a2,a3,a4⟩,r4,by simp,⟨b1,b2,b3,b4⟩,h4⟩
theorem VN {ts : List Ty} {l : List X} (h : cV ([.row [.str],.row [.int .i64,.str],.row [.str,.row [.str],.row [.str],.int .i64,.row [.str,.str],.str,.int .i64,.int .i64,.int .i64],.row [.int .i64,.str,.str,.int .i64],.int .i64,.int .i64] ++ ts) l) : ∃ (a : Sh) (l' : List X),l = aH .sl a ++ l'∧Fj a∧cV ts l':=by
 simp only [List.cons_append,List.nil_append] at h
 obtain ⟨a1,r1,rfl,b1,h1⟩:=VI (ts:=_) h
 obtain ⟨y2,r2,rfl,c2,h2⟩:=h1.cons
 obtain ⟨a2,rfl,b2⟩:=kg (aB .sl) sL c2 fun r hr=>by
  obtain ⟨a,l',rfl,h1,h2⟩:=VK (ts:=[]) (by simpa using hr)
  obtain rfl:=h2.nil
  exact ⟨a,by simp,h1⟩
 obtain ⟨y3,r3,rfl,c3,h3⟩:=h2.cons
 obtain ⟨a3,rfl,b3⟩:=kg aS qA c3 fun r hr=>by
  obtain ⟨a,l',rfl,h1,h2⟩:=VG (ts:=[]) (by simpa using hr)
  obtain rfl:=h2.nil
  exact ⟨a,by simp,h1⟩
 obtain ⟨y4,r4,rfl,c4,h4⟩:=h3.cons
 obtain ⟨a4,rfl,b4⟩:=gX c4
 obtain ⟨y5,r5,rfl,c5,h5⟩:=h4.cons
 obtain ⟨a5,rfl,b5⟩:=gX c5
 exact ⟨⟨a1,a2,a3,a4,a5⟩,r5,by simp,⟨b1,b2,b3,b4,b5⟩,h5⟩
theorem VJ {ts : List Ty} {l : List X} (h : cV ([.int .i64,.str,.row [.str,.str],.str,.row [.int .i64],.str,.row [.str],.row [.str],.int .i64,.row [.str,.str],.str,.int .i64,.bool] ++ ts) l) : ∃ (a : Fl) (l' : List X),l = bM .sl a ++ l'∧sK a∧cV ts l':=by
 simp only [List.cons_append,List.nil_append] at h
 obtain ⟨a1,r1,rfl,b1,h1⟩:=F8 (ts:=_) h
 obtain ⟨y2,r2,rfl,c2,h2⟩:=h1.cons
 obtain ⟨a2,rfl,b2⟩:=kg eI bI c2 fun r hr=>by
  obtain ⟨x,r',rfl,h1,h2⟩:=hr.cons
  obtain rfl:=h2.nil
  obtain ⟨s,rfl,hs⟩:=gX h1
  exact ⟨s,rfl,hs⟩
 obtain ⟨a3,r3,rfl,b3,h3⟩:=F7 (ts:=_) h2
 obtain ⟨y4,r4,rfl,c4,h4⟩:=h3.cons
 obtain ⟨a4,rfl⟩:=VP c4
 exact ⟨⟨a1,a2,a3,a4⟩,r4,by simp,⟨b1,b2,b3,trivial⟩,h4⟩
theorem VM {ts : List Ty} {l : List X} (h : cV ([.int .i64,.str,.row [.str,.str],.str,.int .i64,.row [.str,.str],.str,.int .i64] ++ ts) l) : ∃ (a : Se) (l' : List X),l = cZ .sl a ++ l'∧sP a∧cV ts l':=by
 simp only [List.cons_append,List.nil_append] at h
 obtain ⟨a1,r1,rfl,b1,h1⟩:=F8 (ts:=_) h
 obtain ⟨a2,r2,rfl,b2,h2⟩:=F9 (ts:=_) h1
 obtain ⟨y3,r3,rfl,c3,h3⟩:=h2.cons
 obtain ⟨a3,rfl,b3⟩:=gX c3
 exact ⟨⟨a1,a2,a3⟩,r3,by simp,⟨b1,b2,b3⟩,h3⟩
theorem VL {ts : List Ty} {l : List X} (h : cV ([.int .i64,.int .i64,.str,.row [.str,.str],.str,.int .i64,.row [.str,.str],.str,.int .i64,.int .i64,.str,.row [.str],.row [.str],.int .i64,.row [.str,.str],.str,.int .i64,.int .i64] ++ ts) l) : ∃ (a : Rp) (l' : List X),l = cY .sl a ++ l'∧sM a∧cV ts l':=by
 simp only [List.cons_append,List.nil_append] at h
 obtain ⟨y1,r1,rfl,c1,h1⟩:=h.cons
 obtain ⟨a1,rfl,b1⟩:=gX c1
 obtain ⟨a2,r2,rfl,b2,h2⟩:=F8 (ts:=_) h1
 obtain ⟨a3,r3,rfl,b3,h3⟩:=F9 (ts:=_) h2
 obtain ⟨y4,r4,rfl,c4,h4⟩:=h3.cons
 obtain ⟨a4,rfl,b4⟩:=gX c4
 obtain ⟨y5,r5,rfl,c5,h5⟩:=h4.cons
 obtain ⟨a5,rfl,b5⟩:=gX c5
 obtain ⟨a6,r6,rfl,b6,h6⟩:=F7 (ts:=_) h5
 obtain ⟨y7,r7,rfl,c7,h7⟩:=h6.cons
 obtain ⟨a7,rfl,b7⟩:=gX c7
 exact ⟨⟨a1,a2,a3,a4,a5,a6,a7⟩,r7,by simp,⟨b1,b2,b3,b4,b5,b6,b7⟩,h7⟩
def tCa : List Ty:=[.row [.str],.row [.int .i64,.str],.row [.str,.row [.str],.row [.str],.int .i64,.row [.str,.str],.str,.int .i64,.int .i64,.int .i64],.row [.int .i64,.str,.str,.int .i64],.int .i64,.int .i64,.row [.int .i64,.str,.row [.str,.str],.str,.row [.int .i64],.str,.row [.str],.row [.str],.int .i64,.row [.str,.str],.str,.int .i64,.bool],.int .i64,.row [.int .i64,.str,.row [.str,.str],.str,.int .i64,.row [.str,.str],.str,.int .i64],.row [.int .i64,.int .i64,.str,.row [.str,.str],.str,.int .i64,.row [.str,.str],.str,.int .i64,.int .i64,.str,.row [.str],.row [.str],.int .i64,.row [.str,.str],.str,.int .i64,.int .i64]]
theorem VH {ts : List Ty} {l : List X} (h : cV ([.row [.str],.row [.int .i64,.str],.row [.str,.row [.str],.row [.str],.int .i64,.row [.str,.str],.str,.int .i64,.int .i64,.int .i64],.row [.int .i64,.str,.str,.int .i64],.int .i64,.int .i64,.row [.int .i64,.str,.row [.str,.str],.str,.row [.int .i64],.str,.row [.str],.row [.str],.int .i64,.row [.str,.str],.str,.int .i64,.bool],.int .i64,.row [.int .i64,.str,.row [.str,.str],.str,.int .i64,.row [.str,.str],.str,.int .i64],.row [.int .i64,.int .i64,.str,.row [.str,.str],.str,.int .i64,.row [.str,.str],.str,.int .i64,.int .i64,.str,.row [.str],.row [.str],.int .i64,.row [.str,.str],.str,.int .i64,.int .i64]] ++ ts) l) : ∃ (a : Ca) (l' : List X),l = en .sl a ++ l'∧AK a∧cV ts l':=by
 simp only [List.cons_append,List.nil_append] at h
 obtain ⟨a1,r1,rfl,b1,h1⟩:=VN (ts:=_) h
 obtain ⟨y2,r2,rfl,c2,h2⟩:=h1.cons
 obtain ⟨a2,rfl,b2⟩:=kg (bM .sl) sK c2 fun r hr=>by
  obtain ⟨a,l',rfl,h1,h2⟩:=VJ (ts:=[]) (by simpa using hr)
  obtain rfl:=h2.nil
  exact ⟨a,by simp,h1⟩
 obtain ⟨y3,r3,rfl,c3,h3⟩:=h2.cons
 obtain ⟨a3,rfl,b3⟩:=gX c3
 obtain ⟨y4,r4,rfl,c4,h4⟩:=h3.cons
 obtain ⟨a4,rfl,b4⟩:=kg (cZ .sl) sP c4 fun r hr=>by
  obtain ⟨a,l',rfl,h1,h2⟩:=VM (ts:=[]) (by simpa using hr)
  obtain rfl:=h2.nil
  exact ⟨a,by simp,h1⟩
 obtain ⟨y5,r5,rfl,c5,h5⟩:=h4.cons
 obtain ⟨a5,rfl,b5⟩:=kg (cY .sl) sM c5 fun r hr=>by
  obtain ⟨a,l',rfl,h1,h2⟩:=VL (ts:=[]) (by simpa using hr)
  obtain rfl:=h2.nil
  exact ⟨a,by simp,h1⟩
 exact ⟨⟨a1,a2,a3,a4,a5⟩,r5,by simp,⟨b1,b2,b3,b4,b5⟩,h5⟩
theorem ajJ {x : X} (h : ow (.agg tCa) x) : ∃ a,x = .agg (en .sl a)∧AK a:=by
 obtain ⟨l,rfl,hl⟩:=VF h
 obtain ⟨a,l',rfl,h1,h2⟩:=VH (ts:=[]) (l:=l) (by rw [List.append_nil]; exact hl)
 obtain rfl:=h2.nil
 exact ⟨a,by simp,h1⟩
end M
namespace M
open Go
def cC {β : Type} (p : β→Bool) : Nat→List β→Option (Nat×β)
 | _,[]=>none
 | i,b :: l=>if p b = true then some (i,b) else cC p (i + 1) l
theorem oV {β : Type} {p : β→Bool} : ∀ {l : List β} {k i : Nat} {b : β},cC p k l = some (i,b)→k≤i∧l[i - k]? = some b∧p b = true
 | b' :: l,k,i,b,h=>by
  unfold cC at h
  split at h
  ·rename_i hp
   cases h
   exact ⟨Nat.le_refl _,by simp,hp⟩
  ·obtain ⟨h1,h2,h3⟩:=oV h
   refine ⟨by omega,?_,h3⟩
   rw [show i - k = (i - (k + 1)) + 1 by omega,List.getElem?_cons_succ]
   exact h2
theorem Bj {β : Type} {p : β→Bool} : ∀ {l : List β} {k : Nat},cC p k l = none↔∀ b∈l,¬ p b = true
 | [],k=>by simp [cC]
 | b' :: l,k=>by
  unfold cC
  by_cases hp : p b' = true
  ·simp [hp]
  ·rw [if_neg hp,Bj]
   simp [hp]
theorem pT {xt : Nat} {β : Type} {f : ah→cj} (l : List β) (st : Nat→ah) (p : β→Bool) (R : Nat→β→ah) (E : ah)
  (h : ∀ i b,l[i]? = some b→i < l.length→f (st i) = if p b = true then some (.ret,R i b) else some (.normal,st (i + 1)))
  (hend : f (st l.length) = some (.exit xt,E)) :
  aC f (st 0) = (cC p 0 l).elim (some (.exit xt,E)) fun x=>some (.ret,R x.1 x.2):=by
 suffices H : ∀ (r : List β) (i : Nat),l.drop i = r→i≤l.length→aC f (st i) = (cC p i r).elim (some (.exit xt,E)) fun x=>some (.ret,R x.1 x.2) from H l 0 rfl (Nat.zero_le _)
 intro r
 induction r with
 | nil =>
  intro i hr hi
  have : i = l.length:=by
   have:=congrArg List.length hr
   simp at this
   omega
  subst this
  rw [dy,hend]
  rfl
 | cons b r ih =>
  intro i hr hi
  have hb : l[i]? = some b:=by
   have:=congrArg (fun t : List β=>t[0]?) hr
   simpa using this
  have hlt : i < l.length:=(List.getElem?_eq_some_iff.1 hb).1
  have hd : l.drop (i + 1) = r:=by
   have:=congrArg List.tail hr
   simpa using this
  rw [dy,h i b hb hlt]
  unfold cC
  by_cases hp : p b = true
  ·simp [hp,lv]
  ·simp only [hp]
   exact ih (i + 1) hd hlt
theorem Dk {xt : Nat} {β γ : Type} {f : ah→cj} (l : List β) (φ : β→List γ) (st : Nat→List γ→ah) (E : List γ→ah)
  (h : ∀ i b out,l[i]? = some b→i < l.length→out = (l.take i).flatMap φ→f (st i out) = some (.normal,st (i + 1) (out ++ φ b)))
  (hend : ∀ out,out = l.flatMap φ→f (st l.length out) = some (.exit xt,E out)) :
  aC f (st 0 []) = some (.exit xt,E (l.flatMap φ)):=by
 suffices H : ∀ (k i : Nat),i + k = l.length→aC f (st i ((l.take i).flatMap φ)) = some (.exit xt,E (l.flatMap φ)) from H l.length 0 (by omega)
 intro k
 induction k with
 | zero =>
  intro i hi
  obtain rfl : i = l.length:=by omega
  rw [List.take_length,dy,hend _ rfl]
  rfl
 | succ k ih =>
  intro i hi
  have hlt : i < l.length:=by omega
  rw [dy,h i l[i] _ (List.getElem?_eq_getElem hlt) hlt rfl]
  have : (l.take i).flatMap φ ++ φ l[i] = (l.take (i + 1)).flatMap φ:=by
   rw [List.take_succ_eq_append_getElem hlt,List.flatMap_append]
   simp
  simp only [this]
  exact ih (i + 1) (by omega)
theorem Gu {β γ : Type} (g : β→γ) (l : List β) : l.flatMap (fun b=>[g b]) = l.map g:=by induction l <;> simp_all
theorem Mq {β γ : Type} (g : β→γ) (l : List β) (i : Nat) (h : i≤l.length) : ((l.take i).flatMap (fun b=>[g b])).length = i:=by rw [Gu]; simp; omega
end M
namespace M
open Go
def lG (b : UInt8) : UInt8:=if 65≤b.toNat∧b.toNat≤90 then b + 32 else b
def bW (s : ag) : ag:=s.map lG
def qn (b : UInt8) : Bool:=decide ((97≤b.toNat∧b.toNat≤122)∨(48≤b.toNat∧b.toNat≤57)∨b.toNat = 45)
def dI (s : ag) : Bool:=aI qn s && decide (1≤(s.length : Int)∧(s.length : Int)≤20)
def gS (lo : Nat) (b : UInt8) : Bool:=decide (lo≤b.toNat∧b.toNat≤126)
def fq (s : ag) : ag:=Lib.trimB s 32
def eX (s : ag) : Bool:=aI (gS 32) s && decide (1≤(s.length : Int)∧(s.length : Int)≤60) && decide (fq s = s)
def dM (n : Int) : ag:=if 0≤n∧n≤1000000 then aT n.toNat else []
def gm (b : UInt8) : Bool:=decide (48≤b.toNat∧b.toNat≤57)
def j7 (s : ag) : Nat:=s.foldl (fun x b=>10 * x + b.toNat - 48) 0
def aZ (s : ag) : Option Nat:=if j7 s≤1000000∧aT (j7 s) = s then some (j7 s) else none
def fZ (s : ag) : Bool:=aI (gS 33) s && decide (1≤(s.length : Int)∧(s.length : Int)≤60) && decide (s[0]?.map (fun b : UInt8=>(b.toNat : Int)) = some 47)
theorem Gh {α : Type} (p : α→Bool) : ∀ (a b : List α),(∃ x∈a,p x = false)→(a ++ b).dropWhile p = a.dropWhile p ++ b
 | [],b,h=>by simp at h
 | x :: a,b,h=>by
  simp only [List.cons_append,List.dropWhile_cons]
  by_cases hx : p x = true
  ·simp only [hx,if_true]
   refine Gh p a b ?_
   obtain ⟨y,hy,hp⟩:=h
   rcases List.mem_cons.1 hy with rfl | hy
   ·rw [hx] at hp; cases hp
   ·exact ⟨y,hy,hp⟩
  ·simp [hx]
theorem Gg {α : Type} (p : α→Bool) : ∀ (a : List α),(∀ x∈a,p x = true)→a.dropWhile p = []
 | [],_=>rfl
 | x :: a,h=>by
  rw [List.dropWhile_cons,if_pos (h x (List.mem_cons_self ..))]
  exact Gg p a fun y hy=>h y (List.mem_cons_of_mem _ hy)
theorem Gi {α : Type} (p : α→Bool) : ∀ {a : List α} {x : α},x∈a→p x = false→x∈a.dropWhile p
 | y :: a,x,h,hp=>by
  rw [List.dropWhile_cons]
  by_cases hy : p y = true
  ·rw [if_pos hy]
   rcases List.mem_cons.1 h with rfl | h
   ·rw [hy] at hp; cases hp
   ·exact Gi p h hp
  ·rw [if_neg hy]; exact h
theorem LX {α : Type} (p : α→Bool) (l : List α) : ∃ a,l = a ++ l.dropWhile p∧∀ x∈a,p x = true:=by
 refine ⟨l.takeWhile p,(List.takeWhile_append_dropWhile).symm,fun x hx=>?_⟩
 have:=List.all_takeWhile (l:=l) (p:=p)
 exact List.all_eq_true.1 this x hx
theorem ah9 (p : UInt8→Bool) (l : List UInt8) : (l.reverse.dropWhile p).reverse.dropWhile p = ((l.dropWhile p).reverse.dropWhile p).reverse:=by
 by_cases h : ∃ x∈l,p x = false
 ·obtain ⟨x,hx,hp⟩:=h
  obtain ⟨a,e1,h1⟩:=LX p l
  have hm : x∈l.dropWhile p:=Gi p hx hp
  have e2 : l.reverse.dropWhile p = (l.dropWhile p).reverse.dropWhile p ++ a.reverse:=by
   conv=>lhs; rw [e1,List.reverse_append]
   exact Gh p _ _ ⟨x,by simpa using hm,hp⟩
  rw [e2,List.reverse_append,List.reverse_reverse]
  obtain ⟨b,e3,h3⟩:=LX p (l.dropWhile p).reverse
  generalize hd : (l.dropWhile p).reverse.dropWhile p = d at e3 ⊢
  have aal : ∃ y∈d,p y = false:=⟨x,by rw [← hd]; exact Gi p (by simpa using hm) hp,hp⟩
  have e4 : l.dropWhile p = d.reverse ++ b.reverse:=by
   have:=congrArg List.reverse e3
   simpa using this
  have e5 : (a ++ d.reverse).dropWhile p = d.reverse.dropWhile p:=by
   clear e1 e2 e3 hm
   induction a with
   | nil=>rfl
   | cons y a ih =>
    rw [List.cons_append,List.dropWhile_cons,if_pos (h1 y (List.mem_cons_self ..))]
    exact ih fun z hz=>h1 z (List.mem_cons_of_mem _ hz)
  rw [e5]
  have e6 : (l.dropWhile p).dropWhile p = l.dropWhile p:=by
   have : ∀ l : List UInt8,(l.dropWhile p).dropWhile p = l.dropWhile p:=by
    intro l
    induction l with
    | nil=>rfl
    | cons y l ih =>
     rw [List.dropWhile_cons]
     by_cases hy : p y = true
     ·rw [if_pos hy]; exact ih
     ·rw [if_neg hy,List.dropWhile_cons,if_neg hy]
   exact this l
  rw [e4] at e6
  rw [Gh p d.reverse b.reverse (by obtain ⟨y,hy,hp⟩:=aal; exact ⟨y,by simpa using hy,hp⟩)] at e6
  exact List.append_cancel_right e6
 ·have h1 : ∀ x∈l,p x = true:=fun x hx=>by
   cases hp : p x with
   | true=>rfl
   | false=>exact absurd ⟨x,hx,hp⟩ h
  rw [Gg p l h1,Gg p l.reverse (fun x hx=>h1 x (by simpa using hx))]
  rfl
theorem ah8 (s : ag) : fq s = Lib.trimRightB (Lib.trimLeftB s 32) 32:=ah9 _ s
theorem P0 (s : ag) : (fq s).length≤s.length:=by
 unfold fq Lib.trimB Lib.trimLeftB Lib.trimRightB
 have h1:=(List.dropWhile_sublist (l:=(List.dropWhile (fun x=>x == 32) s.reverse).reverse) (fun x=>x == (32 : UInt8))).length_le
 have h2:=(List.dropWhile_sublist (l:=s.reverse) (fun x=>x == (32 : UInt8))).length_le
 simp only [List.length_reverse] at h1 h2
 omega
theorem ZO {α β : Type} (f : β→α→β) (l : List α) (a : α) (b : β) : (l ++ [a]).foldl f b = f (l.foldl f b) a:=by simp
theorem Gd (n : Nat) : aT n≠[]:=by
 intro h
 have : (aT n).length = Lib.nDigits n:=Lib.decDigits_length n
 rw [h] at this
 have h2:=Lib.nDigits_pos n
 rw [← this] at h2
 simp at h2
theorem Gf (n : Nat) (h : ¬ n < 10) : aT n = aT (n / 10) ++ [UInt8.ofNat (48 + n % 10)]:=by
 unfold aT
 rw [Lib.decDigits,dif_neg h]
theorem Ge (n : Nat) (h : n < 10) : aT n = [UInt8.ofNat (48 + n)]:=by
 unfold aT
 rw [Lib.decDigits,dif_pos h]
theorem tc (k : Nat) (h : k < 10) : (UInt8.ofNat (48 + k)).toNat = 48 + k:=by
 rw [UInt8.toNat_ofNat']
 omega
theorem P9 : ∀ n : Nat,j7 (aT n) = n:=by
 intro n
 induction n using Nat.strongRecOn with
 | ind n ih =>
  by_cases h : n < 10
  ·rw [Ge n h]
   simp only [j7,List.foldl_cons,List.foldl_nil,tc n h]
   omega
  ·rw [Gf n h]
   have:=ih (n / 10) (by omega)
   unfold j7 at this ⊢
   rw [ZO,this,tc _ (by omega)]
   omega
theorem Gc : ∀ n : Nat,aI gm (aT n) = true:=by
 intro n
 induction n using Nat.strongRecOn with
 | ind n ih =>
  rw [gV]
  by_cases h : n < 10
  ·rw [Ge n h]
   intro x hx
   rw [List.mem_singleton.1 hx]
   unfold gm
   rw [tc n h]
   simp; omega
  ·rw [Gf n h]
   intro x hx
   rcases List.mem_append.1 hx with hx | hx
   ·exact gV.1 (ih _ (by omega)) x hx
   ·rw [List.mem_singleton.1 hx]
    unfold gm
    rw [tc _ (by omega)]
    simp; omega
theorem kF {s : ag} {n : Nat} : aZ s = some n↔n≤1000000∧aT n = s:=by
 unfold aZ
 constructor
 ·intro h
  split at h
  ·rename_i hc
   cases h
   exact hc
  ·cases h
 ·rintro ⟨h1,rfl⟩
  rw [P9,if_pos ⟨h1,rfl⟩]
theorem qO (n : Nat) (h : n≤1000000) : (aT n).length≤7:=oP 6 n (by omega)
theorem DA (n : Nat) (h : n≤1000000) : dM (n : Int) = aT n:=by
 unfold dM
 rw [if_pos (by omega)]
 rfl
theorem Ot (n : Nat) (h : n≤1000000) : aZ (dM n) = some n:=kF.2 ⟨h,(DA n h).symm⟩
theorem acq (s : ag) (h : s.length≤7) : aZ s = if s≠[]∧aI gm s = true∧dM (j7 s) = s then some (j7 s) else none:=by
 cases hr : aZ s with
 | some n =>
  obtain ⟨h1,rfl⟩:=kF.1 hr
  rw [P9,if_pos ⟨Gd n,Gc n,DA n h1⟩]
 | none =>
  rw [if_neg]
  rintro ⟨h1,h2,h3⟩
  have : aZ s = some (j7 s):=by
   refine kF.2 ?_
   unfold dM at h3
   split at h3
   ·rename_i hc
    exact ⟨by omega,h3⟩
   ·exact absurd h3.symm h1
  rw [this] at hr
  cases hr
theorem adt : ∀ (n acc : Nat) (l : List UInt8),acc * 10 ^ Lib.nDigits n + n < 10000000000→Lib.parseUint10 acc (aT n ++ l) = Lib.parseUint10 (acc * 10 ^ Lib.nDigits n + n) l:=by
 intro n
 induction n using Nat.strongRecOn with
 | ind n ih =>
  intro acc l hn
  by_cases h : n < 10
  ·rw [Ge n h]
   simp only [List.cons_append,List.nil_append,Lib.parseUint10,tc n h]
   rw [Lib.nDigits_small h] at hn ⊢
   rw [if_pos (by omega),if_neg (by omega),if_neg (by omega)]
   congr 1
   omega
  ·rw [Gf n h,List.append_assoc]
   have e:=Lib.nDigits_big h
   rw [e,Nat.pow_succ] at hn ⊢
   have hm : acc * (10 ^ Lib.nDigits (n / 10) * 10) = acc * 10 ^ Lib.nDigits (n / 10) * 10:=by rw [Nat.mul_assoc]
   rw [hm] at hn ⊢
   rw [ih (n / 10) (by omega) acc _ (by omega)]
   have hd:=tc (n % 10) (by omega)
   simp only [List.cons_append,List.nil_append,Lib.parseUint10,hd]
   rw [if_pos (by omega),if_neg (by omega),if_neg (by omega)]
   congr 1
   omega
theorem KG (n : Nat) (h : n≤1000000) : Lib.atoiAll (aT n) = .ok (n : Int):=by
 cases hd : aT n with
 | nil=>exact absurd hd (Gd n)
 | cons c r =>
  have hc:=gV.1 (Gc n) c (by rw [hd]; exact List.mem_cons_self ..)
  simp only [gm,decide_eq_true_eq] at hc
  rw [Lib.atoiAll_plain c r (by omega) (by omega),← hd]
  unfold Lib.parseMag
  rw [if_neg (Gd n)]
  have:=adt n 0 [] (by omega)
  rw [List.append_nil] at this
  rw [this]
  simp only [Lib.parseUint10,Lib.signless]
  rw [if_neg (by omega)]
  simp
theorem acp (s : ag) (n : Int) (h : Lib.atoiAll s = .ok n) : (if 0≤n∧n≤1000000∧Lib.itoa n = s then some n.toNat else none) = aZ s:=by
 split
 ·rename_i hc
  symm
  refine kF.2 ⟨by omega,?_⟩
  rw [← HI,← hc.2.2]
  congr 1
  omega
 ·rename_i hc
  cases hr : aZ s with
  | none=>rfl
  | some m =>
   obtain ⟨h1,rfl⟩:=kF.1 hr
   rw [KG m h1] at h
   obtain rfl : (m : Int) = n:=by injection h
   exact absurd ⟨by omega,by omega,HI m⟩ hc
theorem acr (s : ag) (h : ∀ n,Lib.atoiAll s≠.ok n) : aZ s = none:=by
 cases hr : aZ s with
 | none=>rfl
 | some m =>
  obtain ⟨h1,rfl⟩:=kF.1 hr
  exact absurd (KG m h1) (h m)
theorem Oq (s : ag) (h : 7 < s.length) : aZ s = none:=by
 cases hr : aZ s with
 | none=>rfl
 | some m =>
  obtain ⟨h1,rfl⟩:=kF.1 hr
  have:=qO m h1
  omega
def bg (c : UInt8) : ag→List ag
 | []=>[[]]
 | b :: s=>if b = c then [] :: bg c s else match bg c s with
  | w :: ws=>(b :: w) :: ws
  | []=>[[b]]
theorem vq (c : UInt8) (s : ag) : bg c s≠[]:=by
 cases s with
 | nil=>simp [bg]
 | cons b s =>
  unfold bg
  split
  ·simp
  ·split <;> simp
def gB (s : ag) : List ag:=((bg 44 s).map fq).filter fun w=>decide (w≠[])
end M
namespace M
open Go Go.RowKit
def oy (w w' : World) (c : C) : Prop:=(∀ Z,c.ok w' Z)∧c.bare∧∀ b k,c.fp b k→w.heap.size≤b
theorem SN [Bs] {P : Program} {f : FuncId} {xs : List X} {r : X}
  (h : ∀ w zl zb cs,cs.map C.er = xs→ou w zl zb cs→l5 w→Calls P f (cs.map C.val).toArray w fun e w'=>∃ c : C,e = .returned c.val∧c.er = r∧Below w.heap.size w w'∧oy w w' c) :
  AC P f xs fun r' ps=>r' = r∧ps = xs.map fun _=>.dead:=by
 intro w zl zb cs e hA kz
 refine (h w zl zb cs e hA fun b hb=>(kz b hb).1).mono fun e' w' ⟨c,he,hc,hb,c1,c2,c3⟩=>?_
 have GS : Ext (fun b k=>∃ x∈cs,x.fp b k) w w':=⟨hb.os,hb.tape,hb.output,hb.size,fun b hl=>.inl (hb.block b hl)⟩
 refine ⟨c,cs.map fun x=>.dead x.val,zl,⟨he,by rw [List.map_map]; rfl,GS,⟨fun x hx'=>?_,fun x hx'=>?_,fun x hx' b k hf=>?_,fun b k hz=>Nat.lt_of_lt_of_le (hA.cm b k (hz.imp id fun h=>h.elim)) hb.size,?_⟩,fun x hx' b k hf=>?_,fun _ _ h=>h,fun _ _ h=>.inl h⟩,hc,?_⟩
 ·rcases List.mem_cons.1 hx' with rfl | hx'
  ·exact c1 _
  ·obtain ⟨y,_,rfl⟩:=List.mem_map.1 hx'; trivial
 ·rcases List.mem_cons.1 hx' with rfl | hx'
  ·exact c2
  ·obtain ⟨y,_,rfl⟩:=List.mem_map.1 hx'; trivial
 ·rcases List.mem_cons.1 hx' with rfl | hx'
  ·have h1:=c3 b k hf
   exact ⟨fun hz=>by have:=hA.cm b k (.inl hz); omega,fun hz=>hz⟩
  ·obtain ⟨y,_,rfl⟩:=List.mem_map.1 hx'; exact hf.elim
 ·refine List.pairwise_cons.2 ⟨fun x hx b k hf hf'=>?_,?_⟩
  ·obtain ⟨y,_,rfl⟩:=List.mem_map.1 hx; exact hf'
  ·refine List.pairwise_iff_getElem.2 fun i j hi hj _ b k hf=>?_
   obtain ⟨y,_,hy⟩:=List.mem_map.1 (List.getElem_mem hi)
   rw [← hy] at hf
   exact hf.elim
 ·rcases List.mem_cons.1 hx' with rfl | hx'
  ·exact .inr (c3 b k hf)
  ·obtain ⟨y,_,rfl⟩:=List.mem_map.1 hx'; exact hf.elim
 ·rw [← e]
  simp [List.map_map,Function.comp_def,C.er]
def dR (f0 : FuncId) (g : List X→Option X) : bZ:=fun f xs=>if f = f0 then (match g xs with
 | some r=>some (r,xs.map fun _=>.dead)
 | none=>none) else none
theorem rN [Bs] {P : Program} {f0 : FuncId} {g : List X→Option X}
  (h : ∀ xs r,g xs = some r→∀ w zl zb cs,cs.map C.er = xs→ou w zl zb cs→l5 w→Calls P f0 (cs.map C.val).toArray w fun e w'=>∃ c : C,e = .returned c.val∧c.er = r∧Below w.heap.size w w'∧oy w w' c) : (dR f0 g).Sound P:=fun f xs o e=>by
 unfold dR at e
 split at e
 ·rename_i hf
  subst hf
  split at e
  ·rename_i r hr
   cases e
   exact SN (h xs r hr)
  ·cases e
 ·cases e
theorem wq {c : C} {s : ByteArray} (h : c.er = .str s) : c = .str s:=by cases c <;> simp [C.er] at h; rw [h]
theorem map_nil {l : List C} (h : l.map C.er = []) : l = []:=by simpa using h
theorem map_cons {l : List C} {x : X} {xs : List X} (h : l.map C.er = x :: xs) : ∃ c cs,l = c :: cs∧c.er = x∧cs.map C.er = xs:=by
 cases l with
 | nil=>simp at h
 | cons c cs=>simp at h; exact ⟨c,cs,rfl,h.1,h.2⟩
theorem wA {w w' : World} {s : ByteArray} (h : s.size≤9223372036854775807) : oy w w' (.str s):=⟨fun _=>h,trivial,fun _ _ h=>h.elim⟩
theorem ZP {w w' : World} {k : IntKind} {n : Int} : oy w w' (.int k n):=⟨fun _=>trivial,trivial,fun _ _ h=>h.elim⟩
theorem Bp {w w' : World} {b : Bool} : oy w w' (.bool b):=⟨fun _=>trivial,trivial,fun _ _ h=>h.elim⟩
def vz (l : List C) : C:=.au l.length fun j=>l.getD j (.dead undef)
theorem IQ {α β : Type} (l : List α) (d : α) (g : α→β) : ((List.range l.length).map fun j=>g (l.getD j d)) = l.map g:=by
 apply List.ext_getElem
 ·simp
 ·intro i h1 h2
  simp at h1
  simp [h1]
theorem JV (l : List C) : (vz l).er = .au (l.map C.er):=by
 show X.au _ = _
 rw [IQ l _ C.er]
theorem JW (l : List C) : (vz l).val = .tuple (l.map C.val).toArray:=by
 show Value.tuple _ = _
 rw [IQ l _ C.val]
theorem GB {w w' : World} {l : List C} (h : ∀ c∈l,oy w w' c∧c.ff∧∀ b k,¬ c.fp b k) : oy w w' (vz l):=by
 have hm : ∀ j,j < l.length→l.getD j (.dead undef)∈l:=fun j hj=>by simp [List.getD,hj]
 refine ⟨fun Z=>⟨fun j hj=>⟨(h _ (hm j hj)).2.1,(h _ (hm j hj)).1.1 Z⟩,fun j hj b k hf=>((h _ (hm j hj)).2.2 b k hf).elim⟩,fun j hj=>(h _ (hm j hj)).1.2.1,fun b k hf=>?_⟩
 obtain ⟨j,hj,hf⟩:=hf
 exact ((h _ (hm j hj)).2.2 b k hf).elim
theorem ZQ {w w' : World} {g : Nat} {t : TypeId} {l : List ByteArray} (hg : w.heap.size≤g) (hb : w'.heap[g]? = some (.cells (l.map Value.string).toArray t (0,0))) (hs : ∀ s∈l,s.size≤9223372036854775807) :
  oy w w' (.row .own 1 (some (g,0,none)) l.length l.length fun i _=>.str (l.getD i ByteArray.empty)):=by
 have hm : ∀ j,j < l.length→l.getD j ByteArray.empty∈l:=fun j hj=>by simp [List.getD,hj]
 refine ⟨fun Z=>⟨Nat.le_refl _,fun i j hi hj=>⟨g,0,rfl,?_,fun h=>absurd rfl h⟩,fun i j hi hj=>⟨trivial,trivial,trivial,hs _ (hm i hi)⟩,fun _=>.inr ⟨g,0,_,t,(0,0),rfl,hb,?_,fun k _ _=>?_⟩,fun i j hi hj b k hf=>hf.elim⟩,trivial,fun b k hf=>?_⟩
 ·obtain rfl : j = 0:=by omega
  simp only [World.cell?,hb]
  simp [C.val,hi,Go.Value.oneCell']
 ·simp
 ·simp [World.frozen?,hb]
 ·obtain ⟨_,h | ⟨i,j,_,_,h⟩⟩:=hf
  ·obtain ⟨o,h⟩:=h
   have hgb:=congrArg Prod.fst (Option.some.inj h)
   have hgb : g = b:=hgb; exact hgb ▸ hg
  ·exact h.elim
theorem adS (l : List ByteArray) (g cap : Nat) : (C.row .own 1 (some (g,0,none)) l.length cap fun i _=>.str (l.getD i ByteArray.empty)).er = .row .own 1 (l.map fun s=>[.str s]):=by
 show X.row _ _ _ = _
 congr 1
 have:=IQ l ByteArray.empty fun s=>[X.str s]
 rw [← this]
 rfl
theorem Wb {c : C} {m : Md} {z : Nat} {xs : List (List X)} (h : c.er = .row m z xs) : ∃ A len cap e,c = .row m z A len cap e∧len = xs.length∧∀ i,i < len→xs[i]? = some ((List.range z).map fun j=>(e i j).er):=by
 cases c with
 | row m' z' A len cap e =>
  simp only [C.er,X.row.injEq] at h
  obtain ⟨rfl,rfl,h⟩:=h
  refine ⟨A,len,cap,e,rfl,by rw [← h]; simp,fun i hi=>?_⟩
  rw [← h]
  simp [hi]
 | _=>simp [C.er] at h
end M
namespace M
open Go
def oh (s : ag) : X:=.str ⟨s.toArray⟩
def DN (l : List ag) : X:=.row .own 1 (l.map eS)
def EO : List X→Option X
 | [.str s,.str c]=>if c.data.toList = [32]∧s.size≤9223372036854775807 then some (oh (fq s.data.toList)) else none
 | _=>none
def zY : List X→Option X
 | [.str s,.str c]=>if s.size < 4294967281∧1≤c.size then some (DN (Lib.split s.data.toList c.data.toList)) else none
 | _=>none
def A1 : List X→Option X
 | [.str s,.str c]=>if s.size < 4294967281 then some (.au [oh (Lib.cut s.data.toList c.data.toList).1,oh (Lib.cut s.data.toList c.data.toList).2.1,.bool (Lib.cut s.data.toList c.data.toList).2.2]) else none
 | _=>none
def BC : List X→Option X
 | [.str s,.str c]=>some (.bool (Lib.hasPrefix s.data.toList c.data.toList))
 | _=>none
def A4 : List X→Option X
 | [.str s,.str c]=>if s.size≤9223372036854775807 then some (.au [oh (Lib.trimPrefix s.data.toList c.data.toList),.bool (Lib.hasPrefix s.data.toList c.data.toList)]) else none
 | _=>none
def Dy : List X→Option X
 | [.str s]=>if s.size≤9223372036854775807 then some (match aZ s.data.toList with
  | some n=>.au [.int .i64 n,.bool true]
  | none=>.au [.int .i64 0,.bool false]) else none
 | _=>none
def oU (f : aF) : ag:=f.name ++ [58,32] ++ f.value ++ [13,10]
def gZ (l : List aF) : ag:=l.flatMap oU
def oX : List (List X)→Option (List aF)
 | []=>some []
 | [.str a,.str b] :: r=>(oX r).map fun l=>⟨a.data.toList,b.data.toList⟩ :: l
 | _=>none
def Bg : List X→Option X
 | [.row .af 2 rows]=>(match oX rows with
  | some l=>if (gZ l).length≤140737488355328∧l.length≤140737488355328 then some (oh (gZ l)) else none
  | none=>none)
 | _=>none
theorem Mu : ∀ l : List aF,oX (l.map aG) = some l
 | []=>rfl
 | f :: l=>by simp [oX,Mu l]
theorem count_nil (c : UInt8) : Lib.count [] [c] = 0:=by rw [Lib.count_one]; rfl
theorem ael (c : UInt8) : ∀ s : ag,Lib.split s [c] = bg c s:=by
 have key : ∀ (n : Nat) (s : ag),s.length≤n→Lib.splitK [c] 0 (Lib.count s [c]) s = bg c s:=by
  intro n
  induction n with
  | zero =>
   intro s hs
   obtain rfl : s = []:=List.length_eq_zero_iff.1 (by omega)
   rw [count_nil]
   rfl
  | succ n ih =>
   intro s hs
   cases s with
   | nil=>rw [count_nil]; rfl
   | cons b s =>
    simp at hs
    have CA:=ih s (by omega)
    by_cases hb : b = c
    ·subst hb
     rw [Lib.count_cons_eq,Nat.add_comm]
     have hi : Lib.index (b :: s) [b] = 0:=Lib.index_first (i:=0) (Nat.zero_le _) (by simp [Lib.occAt]) (fun _ h=>absurd h (Nat.not_lt_zero _))
     simp only [Lib.splitK,hi,bg]
     simp [CA]
    ·rw [Lib.count_cons_ne _ _ _ hb]
     have hnext : Lib.index (b :: s) [c] = if Lib.index s [c] = -1 then -1 else Lib.index s [c] + 1:=by
      have h:=Lib.index_drop (s:=b :: s) (sub:=[c]) (i:=1) (fun j hj=>by
       obtain rfl : j = 0:=by omega
       simp [Lib.occAt,List.isPrefixOf,Ne.symm hb]) (by simp)
      simp at h
      exact h
     rw [bg,if_neg hb,← CA]
     cases hk : Lib.count s [c] with
     | zero=>simp [Lib.splitK]
     | succ k =>
      simp only [Lib.splitK,hnext]
      by_cases h1 : Lib.index s [c] = -1
      ·simp [h1]
      ·have h0 : 0≤Lib.index s [c]:=by
        have : -1≤Lib.index s [c]:=Lib.index_ge _ _
        omega
       have h2 : ¬ Lib.index s [c] + 1 = -1:=by omega
       have h3 : (Lib.index s [c] + 1).toNat = (Lib.index s [c]).toNat + 1:=by omega
       simp [h1,h2,h3]
 intro s
 exact key s.length s (Nat.le_refl _)
def cr (c : UInt8) : ag→Option (ag×ag)
 | []=>none
 | b :: s=>if b = c then some ([],s) else (cr c s).map fun p=>(b :: p.1,p.2)
theorem aa3 (b c : UInt8) (s : ag) : Lib.index (b :: s) [c] = if b = c then 0 else if Lib.index s [c] = -1 then -1 else Lib.index s [c] + 1:=by
 by_cases hb : b = c
 ·subst hb
  rw [if_pos rfl]
  exact Lib.index_first (i:=0) (Nat.zero_le _) (by simp [Lib.occAt]) (fun _ h=>absurd h (Nat.not_lt_zero _))
 ·rw [if_neg hb]
  have h:=Lib.index_drop (s:=b :: s) (sub:=[c]) (i:=1) (fun j hj=>by
   obtain rfl : j = 0:=by omega
   simp [Lib.occAt,List.isPrefixOf,Ne.symm hb]) (by simp)
  simp at h
  exact h
theorem A6 (c : UInt8) : ∀ s : ag,Lib.cut s [c] = match cr c s with
  | some p=>(p.1,p.2,true)
  | none=>(s,[],false)
 | []=>rfl
 | b :: s=>by
  have ih:=A6 c s
  have h0 : -1≤Lib.index s [c]:=Lib.index_ge _ _
  unfold Lib.cut at ih ⊢
  rw [aa3,cr]
  by_cases hb : b = c
  ·simp [hb]
  ·simp only [hb,if_false]
   by_cases h1 : Lib.index s [c] = -1
   ·rw [h1] at ih
    simp only [h1]
    cases hc : cr c s with
    | none=>simp
    | some p=>rw [hc] at ih; simp at ih
   ·have h2 : 0≤Lib.index s [c]:=by omega
    rw [if_pos h2] at ih
    rw [if_neg h1,if_pos (by omega)]
    have h3 : (Lib.index s [c] + 1).toNat = (Lib.index s [c]).toNat + 1:=by omega
    cases hc : cr c s with
    | none=>rw [hc] at ih; simp at ih
    | some p =>
     rw [hc] at ih
     simp at ih
     simp [h3,← ih.1,← ih.2]
end M
namespace M
open Go
def dJ {β : Type} (p : β→Bool) (l : List β) : Nat:=(l.takeWhile fun b=>!p b).length
theorem N9 {β : Type} {f : ah→cj} (l : List β) (st : Nat→ah) (p : β→Bool) (E : Nat→ah) {x : Nat}
  (h : ∀ i b,l[i]? = some b→i < l.length→f (st i) = if p b = true then some (.exit x,E i) else some (.normal,st (i + 1)))
  (hend : f (st l.length) = some (.exit x,E l.length)) : aC f (st 0) = some (.exit x,E (dJ p l)):=by
 suffices H : ∀ (r : List β) (i : Nat),l.drop i = r→i≤l.length→aC f (st i) = some (.exit x,E (i + dJ p r)) by
  have:=H l 0 rfl (Nat.zero_le _)
  rwa [Nat.zero_add] at this
 intro r
 induction r with
 | nil =>
  intro i hr hi
  have : i = l.length:=by
   have:=congrArg List.length hr
   simp at this
   omega
  subst this
  rw [dy,hend]
  rfl
 | cons b r ih =>
  intro i hr hi
  have hb : l[i]? = some b:=by
   have:=congrArg (fun t : List β=>t[0]?) hr
   simpa using this
  have hlt : i < l.length:=(List.getElem?_eq_some_iff.1 hb).1
  have hd : l.drop (i + 1) = r:=by
   have:=congrArg List.tail hr
   simpa using this
  rw [dy,h i b hb hlt]
  unfold dJ
  by_cases hp : p b = true
  ·simp [hp,eu]
  ·have:=ih (i + 1) hd hlt
   simp only [hp]
   have e : i + 1 + dJ p r = i + (dJ p r + 1):=by omega
   rw [e] at this
   simp [hp,eu,this,dJ]
theorem ES {β : Type} (p : β→Bool) (l : List β) : dJ p l≤l.length:=by
 unfold dJ
 exact (List.takeWhile_sublist _).length_le
theorem P8 {β : Type} (p : β→Bool) : ∀ (l : List β) (j : Nat) (b : β),j < dJ p l→l[j]? = some b→p b = false
 | [],j,b,h,_=>by simp [dJ] at h
 | a :: l,j,b,h,hb=>by
  unfold dJ at h
  rw [List.takeWhile_cons] at h
  by_cases hp : p a = true
  ·simp [hp] at h
  ·simp only [hp,Bool.not_false,if_true,List.length_cons] at h
   cases j with
   | zero=>simp at hb; subst hb; simpa using hp
   | succ j=>exact P8 p l j b (by unfold dJ; omega) (by simpa using hb)
theorem P7 {β : Type} (p : β→Bool) : ∀ (l : List β) (b : β),l[dJ p l]? = some b→p b = true
 | [],b,h=>by simp at h
 | a :: l,b,h=>by
  unfold dJ at h
  rw [List.takeWhile_cons] at h
  by_cases hp : p a = true
  ·simp [hp] at h; subst h; exact hp
  ·simp only [hp,Bool.not_false,if_true,List.length_cons,List.getElem?_cons_succ] at h
   exact P7 p l b h
def e9 (c : UInt8) (f : ag→List ag) (s : ag) (i : Nat) (g : List ag×Nat) (b : Option UInt8) : List ag×Nat:=match b with
 | some b=>if b = c then (g.1 ++ f ((s.take i).drop g.2),i + 1) else g
 | none=>(g.1 ++ f ((s.take i).drop g.2),i + 1)
theorem zX (c : UInt8) : ∀ (cur rest : ag),(∀ b∈cur,b≠c)→bg c (cur ++ rest) = match bg c rest with
  | w :: ws=>(cur ++ w) :: ws
  | []=>[cur]
 | [],rest,_=>by
  cases h : bg c rest with
  | nil=>exact absurd h (vq c rest)
  | cons w ws=>simpa using h
 | a :: cur,rest,h=>by
  rw [List.cons_append,bg,if_neg (h a (List.mem_cons_self ..)),zX c cur rest fun b hb=>h b (List.mem_cons_of_mem _ hb)]
  cases bg c rest <;> simp
theorem JG (c : UInt8) (cur : ag) (h : ∀ b∈cur,b≠c) : bg c cur = [cur]:=by
 have:=zX c cur [] h
 simpa [bg] using this
theorem JL : ∀ (p cur rest : ag),((p ++ (cur ++ rest)).take (p.length + cur.length)).drop p.length = cur
 | [],cur,rest=>by simp
 | a :: p,cur,rest=>by
  have:=JL p cur rest
  simp only [List.length_cons,List.cons_append,show p.length + 1 + cur.length = p.length + cur.length + 1 by omega,List.take_succ_cons,List.drop_succ_cons]
  exact this
theorem MA (c : UInt8) (f : ag→List ag) (s : ag) : foldI (e9 c f s) 0 (s.map some ++ [none]) ([],0) = ((bg c s).flatMap f,s.length + 1):=by
 suffices H : ∀ (rest p cur : ag) (out : List ag),s = p ++ cur ++ rest→(∀ b∈cur,b≠c)→foldI (e9 c f s) (p.length + cur.length) (rest.map some ++ [none]) (out,p.length) = (out ++ (bg c (cur ++ rest)).flatMap f,s.length + 1) by
  have:=H s [] [] [] rfl (by simp)
  simpa using this
 intro rest
 induction rest with
 | nil =>
  intro p cur out hs hc
  simp only [List.append_nil] at hs ⊢
  rw [JG c cur hc]
  subst hs
  have e1:=JL p cur []
  rw [List.append_nil] at e1
  simp [foldI,e9,e1]
 | cons b rest ih =>
  intro p cur out hs hc
  simp only [List.map_cons,List.cons_append,foldI]
  by_cases hb : b = c
  ·subst hb
   have e1 : (s.take (p.length + cur.length)).drop p.length = cur:=by subst hs; have:=JL p cur (b :: rest); rwa [← List.append_assoc] at this
   have:=ih (p ++ cur ++ [b]) [] (out ++ f cur) (by simp [hs]) (by simp)
   simp only [List.length_append,List.length_cons,List.length_nil,List.nil_append] at this
   simp only [e9,if_true,e1]
   rw [show p.length + cur.length + 1 = p.length + cur.length + (0 + 1) + 0 by omega,this,zX b cur (b :: rest) hc]
   simp [bg]
  ·have:=ih p (cur ++ [b]) out (by simp [hs]) (by
    intro x hx
    rcases List.mem_append.1 hx with hx | hx
    ·exact hc x hx
    ·rw [List.mem_singleton.1 hx]; exact hb)
   simp only [List.length_append,List.length_cons,List.length_nil] at this
   simp only [e9,hb,if_false]
   rw [show p.length + cur.length + 1 = p.length + (cur.length + (0 + 1)) by omega,this]
   simp
theorem Qi (s : ag) : gB s = (bg 44 s).flatMap fun w=>if fq w≠[] then [fq w] else []:=by
 unfold gB
 induction bg 44 s with
 | nil=>rfl
 | cons w l ih =>
  simp only [List.map_cons,List.filter_cons,List.flatMap_cons,← ih]
  by_cases h : fq w = [] <;> simp [h]
@[simp] theorem aj8 (l : List UInt8) : l.map (fun b : UInt8=>[X.int IntKind.u8 (b.toNat : Int)]) = l.map eU:=rfl
@[simp] theorem alZ (l : List UInt8) : qo (l.map eU) = some l:=P5 l
theorem JK (c : UInt8) : ∀ s : ag,((bg c s).map List.length).sum + (bg c s).length = s.length + 1
 | []=>rfl
 | b :: s=>by
  have:=JK c s
  unfold bg
  split
  ·simp; omega
  ·cases h : bg c s with
   | nil=>exact absurd h (vq c s)
   | cons w ws=>rw [h] at this; simp at this ⊢; omega
theorem PB (c : UInt8) (s : ag) : (bg c s).length≤s.length + 1:=by have:=JK c s; omega
theorem mU (c : UInt8) (s : ag) : ∀ w∈bg c s,w.length≤s.length:=by
 intro w hw
 have h:=JK c s
 have h1 : w.length + 1≤((bg c s).map List.length).sum + (bg c s).length:=by
  clear h
  revert hw
  generalize bg c s = l
  intro hw
  induction l with
  | nil=>cases hw
  | cons x l ih =>
   rcases List.mem_cons.1 hw with rfl | hw
   ·simp; omega
   ·have:=ih hw; simp; omega
 omega
theorem Oa (b : UInt8) (h : 65≤b.toNat∧b.toNat≤90) : (b + 32).toNat = b.toNat + 32:=by
 rw [UInt8.toNat_add]
 have : (32 : UInt8).toNat = 32:=rfl
 omega
theorem Qk {n : Int} (h1 : 0≤n) (h2 : n < 256) : IntKind.u8.wrap n = n:=J3 h1 h2
end M
namespace M
theorem Mp {β γ : Type} (φ : β→List γ) (hφ : ∀ b,(φ b).length≤1) (l : List β) (i : Nat) : ((l.take i).flatMap φ).length≤i:=by
 induction l generalizing i with
 | nil=>simp
 | cons b l ih =>
  cases i with
  | zero=>simp
  | succ i =>
   have:=ih i
   have:=hφ b
   simp only [List.take_succ_cons,List.flatMap_cons,List.length_append]
   omega
end M
namespace M
@[simp] theorem ajd (i : Nat) : ((i : Int) < 0) = False:=by simp
end M
namespace M
def iM {α : Type} (f : α→α) (l : List α) (i : Nat) : List α:=(l.take i).map f ++ l.drop i
@[simp] theorem akQ {α : Type} (f : α→α) (l : List α) (i : Nat) : (iM f l i).length = l.length:=by simp [iM]; omega
theorem abV {α : Type} (f : α→α) (l : List α) : iM f l 0 = l:=by simp [iM]
theorem abR {α : Type} (f : α→α) (l : List α) : iM f l l.length = l.map f:=by simp [iM]
theorem abS {α : Type} (f : α→α) (l : List α) (i : Nat) (h : i < l.length) : (iM f l i)[i]? = some l[i]:=by
 unfold iM
 rw [List.getElem?_append_right (by simp; omega)]
 have : i - ((l.take i).map f).length = 0:=by simp; omega
 rw [this]
 simp [h]
theorem abT {α : Type} (f : α→α) (l : List α) (i : Nat) (h : i < l.length) (h' : i < (iM f l i).length) : (iM f l i)[i] = l[i]:=by
 have:=abS f l i h
 rw [List.getElem?_eq_getElem h'] at this
 exact Option.some.inj this
theorem abU {α : Type} (f : α→α) (l : List α) (i : Nat) (h : i < l.length) : (iM f l i).set i (f l[i]) = iM f l (i + 1):=by
 unfold iM
 rw [List.set_append_right _ _ (by simp; omega),List.drop_eq_getElem_cons h]
 have : i - ((l.take i).map f).length = 0:=by simp; omega
 rw [this,List.take_succ_eq_append_getElem h]
 simp only [List.set_cons_zero,List.map_append,List.map_cons,List.map_nil,List.append_assoc,List.cons_append,List.nil_append]
end M
namespace M
@[simp] theorem abX (m : Md) : ∀ (i : Nat) (l : List (List X)),X.bO m (l.take i) = (X.bO m l).take i
 | 0,l=>by simp [X.bO]
 | i + 1,[]=>by simp [X.bO]
 | i + 1,a :: l=>by simp [X.bO,abX m i l]
@[simp] theorem abW (m : Md) : ∀ (i : Nat) (l : List (List X)),X.bO m (l.drop i) = (X.bO m l).drop i
 | 0,l=>by simp
 | i + 1,[]=>by simp [X.bO]
 | i + 1,a :: l=>by simp [X.bO,abW m i l]
end M
namespace M
open Go
abbrev cT : ag:=[99,111,110,116,101,110,116,45,108,101,110,103,116,104]
abbrev lK : ag:=[99,97,99,104,101,45,99,111,110,116,114,111,108]
abbrev iO : ag:=[118,97,114,121]
theorem vE {l : List ag} {a : ag} (h : a∈l) : a.length≤wL wS l:=ew (w:=wS) h
theorem EV {l : List aF} {a : aF} (h : a∈l) : a.name.length + a.value.length≤wL aJ l:=ew (w:=aJ) h
def iV (fs : List aF) (n : ag) : Option (Nat×aF):=cC (fun f=>decide (f.name = n)) 0 fs
def ji (o : Option (Nat×aF)) : Int:=o.elim (-1) fun x=>(x.1 : Int)
def dA (fs : List aF) (n : ag) : Option ag:=(iV fs n).map fun x=>x.2.value
theorem S0 {fs : List aF} {n : ag} {i : Nat} {f : aF} (h : iV fs n = some (i,f)) : ∃ hi : i < fs.length,fs[i] = f∧f.name = n:=by
 obtain ⟨_,h2,h3⟩:=oV h
 simp at h2 h3
 obtain ⟨hi,e⟩:=List.getElem?_eq_some_iff.1 h2
 exact ⟨hi,e,h3⟩
theorem tq (fs : List aF) (n : ag) : ((dA fs n).getD []).length≤wL aJ fs:=by
 unfold dA
 cases h : iV fs n with
 | none=>simp
 | some x =>
  obtain ⟨i,f⟩:=x
  obtain ⟨hi,rfl,_⟩:=S0 h
  have:=EV (List.getElem_mem hi)
  simp
  omega
def iD (fs : List aF) (x : aF×Nat) : Bool:=dI x.1.name && eX x.1.value && decide (ji (iV fs x.1.name) = x.2) && !decide (x.1.name = cT)
def iC (fs : List aF) : Bool:=aI (iD fs) fs.zipIdx && decide ((fs.length : Int)≤8)
def eT (r : bP) : Bool:=decide (100≤r.status∧r.status≤599) && iC r.fields && decide ((r.body.length : Int)≤120)
def lQ (q : Rq) : Bool:=decide (1≤q.method∧q.method≤4) && fZ q.path && iC q.fields && decide ((q.body.length : Int)≤120)
def fK (fs : List aF) : List ag:=(gB ((dA fs iO).getD [])).map bW
def uJ (l : List ag) : Bool:=aI dI l && decide ((l.length : Int)≤4)
def cy (o : Ob) : Bool:=eT o.resp && fZ o.path && decide (0≤o.t∧o.t≤1000000) && uJ o.names && decide (o.names = fK o.resp.fields) && decide (o.values.length = o.names.length) && aI eX o.values
def dr (b : Bn) : Bool:=decide (0≤b.t∧b.t≤1000000) && (if b.kind = 1∨b.kind = 2 then fZ b.a && decide (b.b = []) else if b.kind = 3 then dI b.a && eX b.b else false)
def kB (b : Bn) (o : Ob) : Bool:=decide (o.t≤b.t) && dr b && cy o && (if b.kind = 1 then decide (o.path = b.a) else if b.kind = 2 then b.a.isPrefixOf o.path else decide (dA o.resp.fields b.a = some b.b))
def nA (l : List Bn) (o : Ob) : Bool:=l.any fun b=>kB b o
def p8 (w : Wr) : Bool:=decide (0≤w.at_∧w.at_≤19)
def cH (d : aW) : Bool:=aI p8 d.pending && decide ((d.cells.length : Int) = 20) && decide ((d.pending.length : Int)≤16)
def lP (l : List Kp) (i : Nat) : Int:=if i = 0 then 0 else (l[i - 1]?.map fun k=>k.seq).getD 0
def pN (S : Int) (l : List Kp) (x : Kp×Nat) : Bool:=cy x.1.obj && decide (5≤x.1.at_∧x.1.at_≤19) && aI (fun y=>decide ¬ y.at_ = x.1.at_) (l.take x.2) && decide (lP l x.2 < x.1.seq) && decide (x.1.seq < S)
def jR (S : Int) (l : List Kp) (x : Kp×Nat) : Bool:=cy x.1.obj && decide (5≤x.1.at_∧x.1.at_≤19) && decide (1≤x.1.seq∧x.1.seq≤S - 1) && decide (x.2 = 0∨lP l x.2 < x.1.seq) && aI (fun y=>decide ¬ y.at_ = x.1.at_) (l.take x.2)
def rQ (S : Int) (l : List Kp) : Bool:=aI (pN S l) l.zipIdx
theorem IM (l : List Kp) (i : Nat) (h : i < l.length) : lP l (i + 1) = l[i].seq:=by simp [lP,h]
theorem abA (S : Int) (l : List Kp) : aI (jR S l) l.zipIdx = rQ S l:=by
 unfold rQ
 rw [Bool.eq_iff_iff,gV,gV]
 have hm : ∀ x∈l.zipIdx,∃ h : x.2 < l.length,x.1 = l[x.2]:=fun x hx=>by
  obtain ⟨i,hi,rfl⟩:=List.getElem_of_mem hx
  simp at hi
  exact ⟨by simpa using hi,by simp⟩
 have hz : ∀ i (h : i < l.length),(l[i],i)∈l.zipIdx:=fun i h=>by
  have : (l.zipIdx)[i]'(by simpa using h) = (l[i],i):=by simp
  rw [← this]; exact List.getElem_mem _
 constructor
 ·intro h x hx
  have h1:=h x hx
  simp only [jR,pN,Bool.and_eq_true,decide_eq_true_eq] at h1 ⊢
  obtain ⟨⟨⟨⟨a,b⟩,c⟩,d⟩,e⟩:=h1
  refine ⟨⟨⟨⟨a,b⟩,e⟩,?_⟩,by omega⟩
  rcases d with d | d
  ·rw [d]
   have : lP l 0 = 0:=rfl
   omega
  ·exact d
 ·intro h
  have pos : ∀ i (hi : i < l.length),1≤l[i].seq:=by
   intro i
   induction i with
   | zero =>
    intro hi
    have h1:=h _ (hz 0 hi)
    simp only [pN,Bool.and_eq_true,decide_eq_true_eq] at h1
    have : lP l 0 = 0:=rfl
    omega
   | succ i ih =>
    intro hi
    have h1:=h _ (hz (i + 1) hi)
    simp only [pN,Bool.and_eq_true,decide_eq_true_eq] at h1
    have h2:=IM l i (by omega)
    have h3:=ih (by omega)
    omega
  intro x hx
  have h1:=h x hx
  obtain ⟨hl,e⟩:=hm x hx
  have h2:=pos x.2 hl
  rw [← e] at h2
  simp only [jR,pN,Bool.and_eq_true,decide_eq_true_eq] at h1 ⊢
  obtain ⟨⟨⟨⟨a,b⟩,c⟩,d⟩,f⟩:=h1
  exact ⟨⟨⟨⟨a,b⟩,by omega⟩,.inr d⟩,c⟩
theorem Gs {β : Type} (p : β→Bool) : ∀ (l : List β) (k : Nat),(cC p k l).isSome = !aI (fun b=>!p b) l
 | [],_=>rfl
 | b :: l,k=>by
  unfold cC aI
  by_cases h : p b = true
  ·simp [h]
  ·have:=Gs p l (k + 1)
   unfold aI at this
   simp [h,this]
theorem vD {l : List Kp} {k : Kp} (h : k∈l) : aV k.obj≤wL bE l:=ew (w:=bE) h
theorem ET {l : List Bn} {b : Bn} (h : b∈l) : aR b≤wL aR l:=ew (w:=aR) h
def j0 (s : Sh) : Bool:=cH s.aL && decide ((s.aQ.length : Int)≤5) && decide (5≤s.next∧s.next≤19) && decide (1≤s.seq∧s.seq≤100000) && aI dr s.aQ && rQ s.seq s.av
end M
namespace M
open Go
def fe (_ : Int) (k : Int) : Int:=k
def dL (_ : ag) (k : Int) : ag:=yF k
def Oi (_ : Bool) (k : Int) : Bool:=decide (k.tmod 3 = 0)
def bq {α : Type} (_ : α) : Nat:=1
def dD {α : Type} (mk : α→Int→α) (n : α→Nat) : List α→Int→List α
 | [],_=>[]
 | a :: l,k=>mk a k :: dD mk n l (k + (n a : Nat))
def nL {α : Type} (n : α→Nat) (l : List α) : Nat:=(l.map n).sum
@[simp] theorem ab2 {α : Type} (mk : α→Int→α) (n : α→Nat) : ∀ (l : List α) (k : Int),(dD mk n l k).length = l.length
 | [],_=>rfl
 | a :: l,k=>by simp [dD,ab2 mk n l]
def mD (a : aF) (k : Int) : aF:=⟨dL a.name (k),dL a.value (k + 1)⟩
def bh (a : aF) : Nat:=2
def ab8 (a : Wr) (k : Int) : Wr:=⟨fe a.at_ (k),dL a.text (k + 1)⟩
def LH (a : Wr) : Nat:=2
def ab5 (a : Kp) (k : Int) : Kp:=⟨⟨dL a.obj.path (k),dD dL bq a.obj.names (k + 1),dD dL bq a.obj.values (k + 1 + (nL bq a.obj.names : Nat)),⟨fe a.obj.resp.status (k + 1 + (nL bq a.obj.names : Nat) + (nL bq a.obj.values : Nat)),dD mD bh a.obj.resp.fields (k + 1 + (nL bq a.obj.names : Nat) + (nL bq a.obj.values : Nat) + 1),dL a.obj.resp.body (k + 1 + (nL bq a.obj.names : Nat) + (nL bq a.obj.values : Nat) + 1 + (nL bh a.obj.resp.fields : Nat))⟩,fe a.obj.t (k + 1 + (nL bq a.obj.names : Nat) + (nL bq a.obj.values : Nat) + 1 + (nL bh a.obj.resp.fields : Nat) + 1)⟩,fe a.at_ (k + 1 + (nL bq a.obj.names : Nat) + (nL bq a.obj.values : Nat) + 1 + (nL bh a.obj.resp.fields : Nat) + 1 + 1),fe a.seq (k + 1 + (nL bq a.obj.names : Nat) + (nL bq a.obj.values : Nat) + 1 + (nL bh a.obj.resp.fields : Nat) + 1 + 1 + 1)⟩
def F6 (a : Kp) : Nat:=6 + nL bq a.obj.names + nL bq a.obj.values + nL bh a.obj.resp.fields
def ab3 (a : Bn) (k : Int) : Bn:=⟨fe a.kind (k),dL a.a (k + 1),dL a.b (k + 1 + 1),fe a.t (k + 1 + 1 + 1)⟩
def LF (a : Bn) : Nat:=4
def ab4 (a : Fl) (k : Int) : Fl:=⟨⟨fe a.q.method (k),dL a.q.path (k + 1),dD mD bh a.q.fields (k + 1 + 1),dL a.q.body (k + 1 + 1 + (nL bh a.q.fields : Nat))⟩,dD fe bq a.who (k + 1 + 1 + (nL bh a.q.fields : Nat) + 1),⟨dL a.old.path (k + 1 + 1 + (nL bh a.q.fields : Nat) + 1 + (nL bq a.who : Nat)),dD dL bq a.old.names (k + 1 + 1 + (nL bh a.q.fields : Nat) + 1 + (nL bq a.who : Nat) + 1),dD dL bq a.old.values (k + 1 + 1 + (nL bh a.q.fields : Nat) + 1 + (nL bq a.who : Nat) + 1 + (nL bq a.old.names : Nat)),⟨fe a.old.resp.status (k + 1 + 1 + (nL bh a.q.fields : Nat) + 1 + (nL bq a.who : Nat) + 1 + (nL bq a.old.names : Nat) + (nL bq a.old.values : Nat)),dD mD bh a.old.resp.fields (k + 1 + 1 + (nL bh a.q.fields : Nat) + 1 + (nL bq a.who : Nat) + 1 + (nL bq a.old.names : Nat) + (nL bq a.old.values : Nat) + 1),dL a.old.resp.body (k + 1 + 1 + (nL bh a.q.fields : Nat) + 1 + (nL bq a.who : Nat) + 1 + (nL bq a.old.names : Nat) + (nL bq a.old.values : Nat) + 1 + (nL bh a.old.resp.fields : Nat))⟩,fe a.old.t (k + 1 + 1 + (nL bh a.q.fields : Nat) + 1 + (nL bq a.who : Nat) + 1 + (nL bq a.old.names : Nat) + (nL bq a.old.values : Nat) + 1 + (nL bh a.old.resp.fields : Nat) + 1)⟩,Oi a.mj (k + 1 + 1 + (nL bh a.q.fields : Nat) + 1 + (nL bq a.who : Nat) + 1 + (nL bq a.old.names : Nat) + (nL bq a.old.values : Nat) + 1 + (nL bh a.old.resp.fields : Nat) + 1 + 1)⟩
def F5 (a : Fl) : Nat:=8 + nL bh a.q.fields + nL bq a.who + nL bq a.old.names + nL bq a.old.values + nL bh a.old.resp.fields
def ab7 (a : Se) (k : Int) : Se:=⟨⟨fe a.q.method (k),dL a.q.path (k + 1),dD mD bh a.q.fields (k + 1 + 1),dL a.q.body (k + 1 + 1 + (nL bh a.q.fields : Nat))⟩,⟨fe a.resp.status (k + 1 + 1 + (nL bh a.q.fields : Nat) + 1),dD mD bh a.resp.fields (k + 1 + 1 + (nL bh a.q.fields : Nat) + 1 + 1),dL a.resp.body (k + 1 + 1 + (nL bh a.q.fields : Nat) + 1 + 1 + (nL bh a.resp.fields : Nat))⟩,fe a.t (k + 1 + 1 + (nL bh a.q.fields : Nat) + 1 + 1 + (nL bh a.resp.fields : Nat) + 1)⟩
def LG (a : Se) : Nat:=6 + nL bh a.q.fields + nL bh a.resp.fields
def ab6 (a : Rp) (k : Int) : Rp:=⟨fe a.client (k),⟨fe a.q.method (k + 1),dL a.q.path (k + 1 + 1),dD mD bh a.q.fields (k + 1 + 1 + 1),dL a.q.body (k + 1 + 1 + 1 + (nL bh a.q.fields : Nat))⟩,⟨fe a.resp.status (k + 1 + 1 + 1 + (nL bh a.q.fields : Nat) + 1),dD mD bh a.resp.fields (k + 1 + 1 + 1 + (nL bh a.q.fields : Nat) + 1 + 1),dL a.resp.body (k + 1 + 1 + 1 + (nL bh a.q.fields : Nat) + 1 + 1 + (nL bh a.resp.fields : Nat))⟩,fe a.kind (k + 1 + 1 + 1 + (nL bh a.q.fields : Nat) + 1 + 1 + (nL bh a.resp.fields : Nat) + 1),fe a.t (k + 1 + 1 + 1 + (nL bh a.q.fields : Nat) + 1 + 1 + (nL bh a.resp.fields : Nat) + 1 + 1),⟨dL a.obj.path (k + 1 + 1 + 1 + (nL bh a.q.fields : Nat) + 1 + 1 + (nL bh a.resp.fields : Nat) + 1 + 1 + 1),dD dL bq a.obj.names (k + 1 + 1 + 1 + (nL bh a.q.fields : Nat) + 1 + 1 + (nL bh a.resp.fields : Nat) + 1 + 1 + 1 + 1),dD dL bq a.obj.values (k + 1 + 1 + 1 + (nL bh a.q.fields : Nat) + 1 + 1 + (nL bh a.resp.fields : Nat) + 1 + 1 + 1 + 1 + (nL bq a.obj.names : Nat)),⟨fe a.obj.resp.status (k + 1 + 1 + 1 + (nL bh a.q.fields : Nat) + 1 + 1 + (nL bh a.resp.fields : Nat) + 1 + 1 + 1 + 1 + (nL bq a.obj.names : Nat) + (nL bq a.obj.values : Nat)),dD mD bh a.obj.resp.fields (k + 1 + 1 + 1 + (nL bh a.q.fields : Nat) + 1 + 1 + (nL bh a.resp.fields : Nat) + 1 + 1 + 1 + 1 + (nL bq a.obj.names : Nat) + (nL bq a.obj.values : Nat) + 1),dL a.obj.resp.body (k + 1 + 1 + 1 + (nL bh a.q.fields : Nat) + 1 + 1 + (nL bh a.resp.fields : Nat) + 1 + 1 + 1 + 1 + (nL bq a.obj.names : Nat) + (nL bq a.obj.values : Nat) + 1 + (nL bh a.obj.resp.fields : Nat))⟩,fe a.obj.t (k + 1 + 1 + 1 + (nL bh a.q.fields : Nat) + 1 + 1 + (nL bh a.resp.fields : Nat) + 1 + 1 + 1 + 1 + (nL bq a.obj.names : Nat) + (nL bq a.obj.values : Nat) + 1 + (nL bh a.obj.resp.fields : Nat) + 1)⟩,fe a.aQ (k + 1 + 1 + 1 + (nL bh a.q.fields : Nat) + 1 + 1 + (nL bh a.resp.fields : Nat) + 1 + 1 + 1 + 1 + (nL bq a.obj.names : Nat) + (nL bq a.obj.values : Nat) + 1 + (nL bh a.obj.resp.fields : Nat) + 1 + 1)⟩
def VC (a : Rp) : Nat:=13 + nL bh a.q.fields + nL bh a.resp.fields + nL bq a.obj.names + nL bq a.obj.values + nL bh a.obj.resp.fields
def Ac (a : Rq) (k : Int) : Rq:=⟨a.method,a.path,dD mD bh a.fields (k),a.body⟩
@[simp] theorem alS (a : Rq) (k : Int) : (Ac a k).method = a.method:=rfl
@[simp] theorem alT (a : Rq) (k : Int) : (Ac a k).path = a.path:=rfl
@[simp] theorem alR (a : Rq) (k : Int) : (Ac a k).body = a.body:=rfl
def JQ (a : Rq) : Nat:=nL bh a.fields
def vt (a : bP) (k : Int) : bP:=⟨a.status,dD mD bh a.fields (k),a.body⟩
@[simp] theorem alV (a : bP) (k : Int) : (vt a k).status = a.status:=rfl
@[simp] theorem alU (a : bP) (k : Int) : (vt a k).body = a.body:=rfl
def aeD (a : bP) : Nat:=nL bh a.fields
def JO (a : Ob) (k : Int) : Ob:=⟨a.path,dD dL bq a.names (k),dD dL bq a.values (k + (nL bq a.names : Nat)),vt a.resp (k + (nL bq a.names : Nat) + (nL bq a.values : Nat)),a.t⟩
@[simp] theorem alO (a : Ob) (k : Int) : (JO a k).path = a.path:=rfl
@[simp] theorem alP (a : Ob) (k : Int) : (JO a k).resp = vt a.resp (k + (nL bq a.names : Nat) + (nL bq a.values : Nat)):=rfl
@[simp] theorem alQ (a : Ob) (k : Int) : (JO a k).t = a.t:=rfl
def PX (a : aW) (k : Int) : aW:=⟨dD dL bq a.cells (k),dD ab8 LH a.pending (k + (nL bq a.cells : Nat))⟩
def JP (a : aW) : Nat:=nL bq a.cells + nL LH a.pending
def Ae (a : Sh) (k : Int) : Sh:=⟨PX a.aL (k),dD ab5 F6 a.av (k + (JP a.aL : Nat)),dD ab3 LF a.aQ (k + (JP a.aL : Nat) + (nL F6 a.av : Nat)),a.next,a.seq⟩
@[simp] theorem alW (a : Sh) (k : Int) : (Ae a k).aL = PX a.aL (k):=rfl
@[simp] theorem alX (a : Sh) (k : Int) : (Ae a k).next = a.next:=rfl
@[simp] theorem alY (a : Sh) (k : Int) : (Ae a k).seq = a.seq:=rfl
def JR (a : Sh) : Nat:=JP a.aL + nL F6 a.av + nL LF a.aQ
def PW (a : Ca) (k : Int) : Ca:=⟨Ae a.aE (k),dD ab4 F5 a.bD (k + (JR a.aE : Nat)),a.now,dD ab7 LG a.seen (k + (JR a.aE : Nat) + (nL F5 a.bD : Nat)),dD ab6 VC a.sent (k + (JR a.aE : Nat) + (nL F5 a.bD : Nat) + (nL LG a.seen : Nat))⟩
@[simp] theorem alH (a : Ca) (k : Int) : (PW a k).aE = Ae a.aE (k):=rfl
@[simp] theorem alG (a : Ca) (k : Int) : (PW a k).now = a.now:=rfl
def vr (a : De) (k : Int) : De:=⟨a.kind,a.client,Ac a.q (k),a.a,vt a.resp (k + (JQ a.q : Nat)),a.oF,dD Oi bq a.keep (k + (JQ a.q : Nat) + (aeD a.resp : Nat))⟩
@[simp] theorem alL (a : De) (k : Int) : (vr a k).kind = a.kind:=rfl
@[simp] theorem alK (a : De) (k : Int) : (vr a k).client = a.client:=rfl
@[simp] theorem alM (a : De) (k : Int) : (vr a k).q = Ac a.q (k):=rfl
@[simp] theorem alI (a : De) (k : Int) : (vr a k).a = a.a:=rfl
@[simp] theorem alN (a : De) (k : Int) : (vr a k).resp = vt a.resp (k + (JQ a.q : Nat)):=rfl
@[simp] theorem alJ (a : De) (k : Int) : (vr a k).oF = a.oF:=rfl
end M
namespace M
open Go Go.RowKit
theorem l5.cell [B : Bs] {w : World} (h : l5 w) {b k : Nat} {v : Value} (hc : B.W0.cell? ⟨b,k,none⟩ = some v) : w.cell? ⟨b,k,none⟩ = some v:=by
 have hb : b < B.W0.heap.size:=by
  rcases Nat.lt_or_ge b B.W0.heap.size with h | h
  ·exact h
  ·simp [World.cell?,Array.getElem?_eq_none h] at hc
 have e:=h b hb
 simpa [World.cell?,e] using hc
theorem S8 (w : World) : Below w.heap.size w w.drew:=(Below.refl _ _).drew
theorem S9 (w : World) : ∀ n,Below w.heap.size w (w.drewN n):=fun n=>⟨rfl,rfl,rfl,Nat.le_refl _,fun _ _=>rfl⟩
theorem Af {cs : List C} {s c : ByteArray} (h : cs.map C.er = [.str s,.str c]) : cs = [.str s,.str c]:=by
 obtain ⟨a,r,rfl,h1,h2⟩:=map_cons h
 obtain ⟨b,r',rfl,h3,h4⟩:=map_cons h2
 obtain rfl:=map_nil h4
 rw [wq h1,wq h3]
theorem acN {cs : List C} {s : ByteArray} (h : cs.map C.er = [.str s]) : cs = [.str s]:=by
 obtain ⟨a,r,rfl,h1,h2⟩:=map_cons h
 obtain rfl:=map_nil h2
 rw [wq h1]
theorem ah4 [Bs] {P : Program} {f0 : FuncId} (hc : ∀ (s : ByteArray) (c : UInt8),c.toNat < 128→∀ w,s.size≤9223372036854775807 →
  Calls P f0 #[.string s,.string ⟨#[c]⟩] w fun e w'=>e = .returned (.string ⟨(Lib.trimB s.data.toList c).toArray⟩)∧(w' = w∨w' = w.drew)) : (dR f0 EO).Sound P :=
 rN fun xs r hg w zl zb cs hx hA hs=>by
  unfold EO at hg
  split at hg
  ·rename_i s c
   split at hg
   ·rename_i hh
    cases hg
    obtain rfl:=Af hx
    have e : c = ⟨#[32]⟩:=by
     have:=congrArg List.toArray hh.1
     simp at this
     cases c; simp at this; rw [this]
    subst e
    refine (hc s 32 (by decide) w hh.2).mono fun e w' ⟨he,hw⟩=>⟨.str ⟨(fq s.data.toList).toArray⟩,he,rfl,?_,wA ?_⟩
    ·rcases hw with rfl | rfl
     ·exact Below.refl _ _
     ·exact S8 _
    ·have:=P0 s.data.toList
     have h2:=hh.2
     simp only [ByteArray.size] at h2 ⊢
     simp at this ⊢
     omega
   ·cases hg
  ·cases hg
theorem aeh [B : Bs] {P : Program} {f0 : FuncId} {g1 : Nat} {t9 : TypeId} (hm : ∃ m,B.W0.cell? ⟨g1,0,none⟩ = some (.int .i64 m)) (hc : ∀ (s sep : ByteArray) (m : Int) (w : World),s.size < 4294967281→w.cell? ⟨g1,0,none⟩ = some (.int .i64 m)→1≤sep.size →
  Calls P f0 #[.string s,.string sep] w fun e w'=>e = .returned (.slice (some ⟨w.heap.size,0,none⟩) (Lib.countB s sep + 1) (Lib.countB s sep + 1))∧w' = w.alloc (.cells ((Lib.splitB sep 0 (Lib.countB s sep) s).map Value.string).toArray t9)) : (dR f0 zY).Sound P :=
 rN fun xs r hg w zl zb cs hx hA hs=>by
  unfold zY at hg
  split at hg
  ·rename_i s c
   split at hg
   ·rename_i hh
    cases hg
    obtain rfl:=Af hx
    obtain ⟨m,hm⟩:=hm
    have hlen:=Lib.splitB_all c hh.2 0 _ s rfl
    have Nb:=Lib.splitB_data c 0 (Lib.countB s c) s
    refine (hc s c m w hh.1 (hs.cell hm) hh.2).mono fun e w' ⟨he,hw⟩=>?_
    subst hw
    refine ⟨.row .own 1 (some (w.heap.size,0,none)) (Lib.splitB c 0 (Lib.countB s c) s).length (Lib.splitB c 0 (Lib.countB s c) s).length fun i _=>.str ((Lib.splitB c 0 (Lib.countB s c) s).getD i ByteArray.empty),?_,?_,?_,?_⟩
    ·rw [he,hlen]; rfl
    ·rw [adS]
     unfold DN
     congr 1
     have : Lib.split s.data.toList c.data.toList = (Lib.splitB c 0 (Lib.countB s c) s).map (·.data.toList):=Nb.symm
     rw [this,List.map_map]
     refine List.map_congr_left fun x _=>?_
     simp
    ·exact (Below.refl _ _).alloc (Nat.le_refl _) _
    ·refine ZQ (Nat.le_refl _) (t:=t9) ?_ fun x hx=>?_
     ·show (w.heap.push _)[w.heap.size]? = _
      simp
     ·have h1 : x.data.toList∈Lib.splitK c.data.toList 0 (Lib.countB s c) s.data.toList:=by rw [← Nb]; exact List.mem_map_of_mem hx
      have h2 : ∀ (k : Nat) (l : List UInt8),∀ y∈Lib.splitK c.data.toList 0 k l,y.length≤l.length:=by
       intro k
       induction k with
       | zero=>intro l y hy; simp [Lib.splitK] at hy; rw [hy]; exact Nat.le_refl _
       | succ k ih =>
        intro l y hy
        unfold Lib.splitK at hy
        split at hy
        ·rw [List.mem_singleton.1 hy]; exact Nat.le_refl _
        ·rcases List.mem_cons.1 hy with rfl | hy
         ·simp
          omega
         ·have:=ih _ _ hy; simp at this; omega
      have h3:=h2 _ _ _ h1
      have h4:=hh.1
      have e1 : s.size = s.data.toList.length:=Lib.size_eq _
      have e2 : x.size = x.data.toList.length:=Lib.size_eq _
      omega
   ·cases hg
  ·cases hg
theorem A5 (s c : ag) : (Lib.cut s c).1.length≤s.length∧(Lib.cut s c).2.1.length≤s.length:=by
 unfold Lib.cut
 split
 ·simp; omega
 ·simp
theorem VQ [B : Bs] {P : Program} {f0 : FuncId} {g1 : Nat} (hm : ∃ m,B.W0.cell? ⟨g1,0,none⟩ = some (.int .i64 m)) (hc : ∀ (s sep : ByteArray) (m : Int) (w : World),s.size < 4294967281→w.cell? ⟨g1,0,none⟩ = some (.int .i64 m) →
  Calls P f0 #[.string s,.string sep] w fun e w'=>e = .returned (.tuple #[.string ⟨(Lib.cut s.data.toList sep.data.toList).1.toArray⟩,.string ⟨(Lib.cut s.data.toList sep.data.toList).2.1.toArray⟩,.bool (Lib.cut s.data.toList sep.data.toList).2.2])∧∃ n,w' = w.drewN n) : (dR f0 A1).Sound P :=
 rN fun xs r hg w zl zb cs hx hA hs=>by
  unfold A1 at hg
  split at hg
  ·rename_i s c
   split at hg
   ·rename_i hh
    cases hg
    obtain rfl:=Af hx
    obtain ⟨m,hm⟩:=hm
    have hl:=A5 s.data.toList c.data.toList
    refine (hc s c m w hh (hs.cell hm)).mono fun e w' ⟨he,n,hw⟩=>?_
    subst hw
    refine ⟨vz [.str ⟨(Lib.cut s.data.toList c.data.toList).1.toArray⟩,.str ⟨(Lib.cut s.data.toList c.data.toList).2.1.toArray⟩,.bool (Lib.cut s.data.toList c.data.toList).2.2],?_,?_,S9 _ n,GB fun x hx=>?_⟩
    ·rw [he,JW]; rfl
    ·rw [JV]; rfl
    ·have hz : s.data.toList.length≤4294967281:=by
      have e1 : s.size = s.data.toList.length:=Lib.size_eq _
      omega
     simp only [List.mem_cons,List.not_mem_nil,or_false] at hx
     rcases hx with rfl | rfl | rfl
     ·exact ⟨wA (by simp only [ByteArray.size,List.size_toArray]; omega),trivial,fun _ _ h=>h⟩
     ·exact ⟨wA (by simp only [ByteArray.size,List.size_toArray]; omega),trivial,fun _ _ h=>h⟩
     ·exact ⟨Bp,trivial,fun _ _ h=>h⟩
   ·cases hg
  ·cases hg
theorem aco [B : Bs] {P : Program} {f0 : FuncId} (hc : ∀ (s : ByteArray) (w : World),l5 w→s.size≤9223372036854775807 →
  Calls P f0 #[.string s] w fun e w'=>e = .returned (.tuple #[.int .i64 (((aZ s.data.toList).getD 0 : Nat) : Int),.bool (aZ s.data.toList).isSome])∧Below w.heap.size w w') : (dR f0 Dy).Sound P :=
 rN fun xs r hg w zl zb cs hx hA hs=>by
  unfold Dy at hg
  split at hg
  ·rename_i s
   split at hg
   ·rename_i hh
    cases hg
    obtain rfl:=acN hx
    refine (hc s w hs hh).mono fun e w' ⟨he,hw⟩=>?_
    refine ⟨vz [.int .i64 (((aZ s.data.toList).getD 0 : Nat) : Int),.bool (aZ s.data.toList).isSome],?_,?_,hw,GB fun x hx=>?_⟩
    ·rw [he,JW]; rfl
    ·rw [JV]; cases aZ s.data.toList <;> rfl
    ·simp only [List.mem_cons,List.not_mem_nil,or_false] at hx
     rcases hx with rfl | rfl
     ·exact ⟨ZP,trivial,fun _ _ h=>h⟩
     ·exact ⟨Bp,trivial,fun _ _ h=>h⟩
   ·cases hg
  ·cases hg
theorem aa9 [B : Bs] {P : Program} {f0 : FuncId} (htab : Lib.TabIs P B.W0 "internal/strconv.uint64pow10" .u64 Lib.pow10Tab) (hc : ∀ (n : Int),-9223372036854775808≤n→n≤9223372036854775807→∀ w,Lib.TabIs P w "internal/strconv.uint64pow10" .u64 Lib.pow10Tab →
  Calls P f0 #[.int .i64 n] w fun e w'=>e = .returned (.string ⟨(Lib.itoa n).toArray⟩)∧∃ k os,w' = Sort.grow (w.drewN k) os) : (iP f0 xO).Sound P :=
 ZX fun xs r h w hw=>by
  unfold xO at h
  split at h
  ·rename_i n
   split at h
   ·rename_i M9
    cases h
    exact hc n M9.1 M9.2 w (TabIs.same htab hw)
   ·cases h
  ·cases h
end M
namespace Go.Proofs
open Go.RowKit
theorem aey {P : Program} {w w' : World} {n : String} {k : IntKind} {zs : List Int} (h : Lib.TabIs P w n k zs) (hw : Below w.heap.size w w') : Lib.TabIs P w' n k zs:=by
 unfold Lib.TabIs World.var? at h ⊢
 cases hg : P.globalNamed n with
 | none=>rw [hg] at h; cases h
 | some g =>
  rw [hg] at h
  simp only [Option.bind_some] at h ⊢
  have hlt : g < w.heap.size:=by
   rcases Nat.lt_or_ge g w.heap.size with h' | h'
   ·exact h'
   ·rw [Array.getElem?_eq_none h'] at h; cases h
  rw [hw.block g hlt]
  exact h
theorem Qd [B : M.Bs] {P : Program} {w : World} {n : String} {cs : Array Value} (h : B.W0.var? P n = some cs) (hw : M.l5 w) : w.var? P n = some cs:=by
 unfold World.var? at h ⊢
 cases hg : P.globalNamed n with
 | none=>rw [hg] at h; cases h
 | some g =>
  rw [hg] at h
  simp only [Option.bind_some] at h ⊢
  have hlt : g < B.W0.heap.size:=by
   rcases Nat.lt_or_ge g B.W0.heap.size with h' | h'
   ·exact h'
   ·rw [Array.getElem?_eq_none h'] at h; cases h
  rw [hw g hlt]
  exact h
theorem ZY (w : World) (k : Nat) (os : Array Obj) : Below w.heap.size w (Sort.grow (w.drewN k) os) :=
 ⟨rfl,rfl,rfl,by simp [Sort.grow,World.drewN],fun b hb=>by show (w.heap ++ os)[b]? = w.heap[b]?; exact Array.getElem?_append_left hb⟩
def mF (v : Int) (l : List UInt8) : Bool:=decide (0≤v∧v≤1000000∧Lib.itoa v = l)
def uL (v : Int) (l : List UInt8) : Int:=if mF v l = true then v else 0
theorem acm {P : Program} {f a : FuncId} {s : ByteArray} {w : World} (hmax : s.size≤9223372036854775807)
  (aaB : 7 < s.size→Calls P f #[.string s] w fun e w'=>e = .returned (.tuple #[.int .i64 0,.bool false])∧w' = w)
  (hok : ¬ 7 < s.size→∀ v,Lib.atoiAll s.data.toList = .ok v→Calls P f #[.string s] w fun e w'=>e = .returned (.tuple #[.int .i64 (uL v s.data.toList),.bool (mF v s.data.toList)])∧Below w.heap.size w w')
  (aag : ¬ 7 < s.size→(∀ v,Lib.atoiAll s.data.toList≠.ok v)→Calls P f #[.string s] w fun e w'=>e = .returned (.tuple #[.int .i64 0,.bool false])∧Below w.heap.size w w') :
  Calls P f #[.string s] w fun e w'=>e = .returned (.tuple #[.int .i64 (((M.aZ s.data.toList).getD 0 : Nat) : Int),.bool (M.aZ s.data.toList).isSome])∧Below w.heap.size w w':=by
 have hl : s.size = s.data.toList.length:=Lib.size_eq _
 by_cases h : 7 < s.size
 ·rw [M.Oq _ (by omega)]
  exact (aaB h).mono fun e w' ⟨he,hw⟩=>⟨he,hw ▸ Below.refl _ _⟩
 by_cases hv : ∃ v,Lib.atoiAll s.data.toList = .ok v
 ·obtain ⟨v,hv⟩:=hv
  rw [← M.acp _ _ hv]
  refine (hok h v hv).mono fun e w' ⟨he,hw⟩=>⟨?_,hw⟩
  rw [he]
  by_cases hb : mF v s.data.toList = true
  ·have hb':=hb
   unfold mF at hb'
   rw [decide_eq_true_eq] at hb'
   rw [uL,if_pos hb,hb,if_pos hb']
   simp; omega
  ·have hb':=hb
   unfold mF at hb'
   rw [decide_eq_true_eq] at hb'
   rw [uL,if_neg hb,if_neg hb']
   simp [hb]
 ·have dH : ∀ v,Lib.atoiAll s.data.toList≠.ok v:=fun v e=>hv ⟨v,e⟩
  rw [M.acr _ dH]
  exact aag h dH
theorem alw {H : Type} {enc : TypeId×Value→H} {a : Assume} {C : Checked} {os : Os} {f : FuncId} {fn : Func} {s : ChangeSpec} {conds : List PathCond} {apart fresh handsOn again : Bool} {X : World→Array Value→Prop}
  (hX : ∀ (w w' : World) (args : Array Value),w.heap = w'.heap→X w args→X w' args)
  (own : ownKnob C.prog.godebug = none) (started : os.Started) (noInit : C.prog.inits.idxOf? f = none) (hfn : C.prog.funcs[f]? = some fn)
  (witness : ∃ (w : World) (tape : Tape) (i : Input),w.os = os∧(w.forCall tape i).Shaped C.prog∧i.vars = []∧Input.okWide C.prog (w.forCall tape i) .any w.heap.size f i ∧
   ((s.pre enc C.prog fn conds apart (w.forCall tape i).memory i.args∧X (w.forCall tape i).memory i.args)∧sizedMet enc C.prog fn (OpenSpec.ofChange s) apart (w.forCall tape i).memory i.args)∧a.holds C.prog (lone (Frame.enter C.prog f i.args .normal) [] (w.forCall tape i)))
  (contract : ∀ (W : World) (base : Nat) (args : Array Value) (ds gs : List (DataW H)) (before : List MemPlace),
   (∀ (j : Nat) t v,fn.params[j]? = some t→args[j]? = some v→Value.okWide C.prog W .any base t v) →
   DataW.Whole enc C.prog fn.params.toList s.vars apart W args.toList ds gs before →
   conds.all (PathCond.test C.prog ⟨fn.params.toList,ds,s.plain.varTypes C.prog,gs⟩) = true →
   (DataW.weightsEach C.prog (fn.params.toList ++ s.plain.varTypes C.prog) (ds ++ gs)).all (·≤reachBytes) = true→X W args →
   W.ShapedOpen C.prog →
   a.holds C.prog (lone (Frame.enter C.prog f args .normal) [] W) →
   Calls C.prog f args W fun e W'=>∃ v,e = .returned v∧s.post enc C.prog fn apart fresh handsOn again W args v W') :
  ReturnsInHanded a C os f .any (fun w args=>(s.pre enc C.prog fn conds apart w args∧X w args)∧sizedMet enc C.prog fn (OpenSpec.ofChange s) apart w args) (s.post enc C.prog fn apart fresh handsOn again):=by
 refine returnsInHanded_of_calls own started noInit witness ?_
 intro w tape i _ hsh _ hok hpre hholds
 obtain ⟨_,_,_,fn',aau,_,_,_,_,hval⟩:=hok
 have e : fn' = fn:=Option.some.inj (aau.symm.trans hfn)
 subst e
 obtain ⟨⟨⟨ds,gs,before,hw,hc⟩,hx⟩,hz⟩:=hpre
 have hw':=DataW.Whole.of_heap (w':=w.forCall tape i) (by rfl) hw
 refine (contract (w.forCall tape i) w.heap.size i.args ds gs before hval hw' hc (hz.weights hw) (hX _ _ _ (by rfl) hx) hsh hholds).mono fun e W' ⟨v,he,hp⟩=>?_
 subst he
 exact ChangeSpec.post_blind hp
end Go.Proofs
namespace M
open Go Go.RowKit
theorem ah5 (s c : ag) : (Lib.trimPrefix s c).length≤s.length:=by
 unfold Lib.trimPrefix
 split
 ·simp
 ·exact Nat.le_refl _
theorem VR [B : Bs] {P : Program} {f0 : FuncId} (hc : ∀ (s p : ByteArray) (w : World),
  Calls P f0 #[.string s,.string p] w fun e w'=>e = .returned (.tuple #[.string ⟨(Lib.trimPrefix s.data.toList p.data.toList).toArray⟩,.bool (Lib.hasPrefix s.data.toList p.data.toList)])∧w' = w) : (dR f0 A4).Sound P :=
 rN fun xs r hg w zl zb cs hx hA hs=>by
  unfold A4 at hg
  split at hg
  ·rename_i s c
   split at hg
   ·rename_i hh
    cases hg
    obtain rfl:=Af hx
    have hl:=ah5 s.data.toList c.data.toList
    refine (hc s c w).mono fun e w' ⟨he,hw⟩=>?_
    subst hw
    refine ⟨vz [.str ⟨(Lib.trimPrefix s.data.toList c.data.toList).toArray⟩,.bool (Lib.hasPrefix s.data.toList c.data.toList)],?_,?_,Below.refl _ _,GB fun x hx=>?_⟩
    ·rw [he,JW]; rfl
    ·rw [JV]; rfl
    ·have e1 : s.size = s.data.toList.length:=Lib.size_eq _
     simp only [List.mem_cons,List.not_mem_nil,or_false] at hx
     rcases hx with rfl | rfl
     ·exact ⟨wA (by simp only [ByteArray.size,List.size_toArray]; omega),trivial,fun _ _ h=>h⟩
     ·exact ⟨Bp,trivial,fun _ _ h=>h⟩
   ·cases hg
  ·cases hg
end M
namespace M
open Go Go.RowKit
theorem aae [B : Bs] {P : Program} {f0 : FuncId} (hc : ∀ (s p : ByteArray) (w : World),
  Calls P f0 #[.string s,.string p] w fun e w'=>e = .returned (.bool (Lib.hasPrefix s.data.toList p.data.toList))∧w' = w) : (dR f0 BC).Sound P :=
 rN fun xs r hg w zl zb cs hx hA hs=>by
  unfold BC at hg
  split at hg
  ·rename_i s c
   cases hg
   obtain rfl:=Af hx
   refine (hc s c w).mono fun e w' ⟨he,hw⟩=>?_
   subst hw
   exact ⟨.bool (Lib.hasPrefix s.data.toList c.data.toList),he,rfl,Below.refl _ _,Bp⟩
  ·cases hg
end M
namespace M
open Go Go.RowKit
def iE (l : List (ByteArray×ByteArray)) : List UInt8:=l.flatMap fun f=>f.1.data.toList ++ [58,32] ++ f.2.data.toList ++ [13,10]
theorem MF {l : List (ByteArray×ByteArray)} {k : Nat} (h : k < l.length) : iE (l.take (k + 1)) = iE (l.take k) ++ (l[k].1.data.toList ++ [58,32] ++ l[k].2.data.toList ++ [13,10]):=by
 unfold iE
 rw [List.take_succ_eq_append_getElem h,List.flatMap_append]
 simp only [List.flatMap_cons,List.flatMap_nil,List.append_nil]
theorem ZT {l : List (ByteArray×ByteArray)} {k : Nat} (h : k < l.length) : (iE (l.take k)).length + l[k].1.size + 2 + l[k].2.size + 2≤(iE l).length:=by
 have e : iE l = iE (l.take (k + 1)) ++ iE (l.drop (k + 1)):=by
  unfold iE
  rw [← List.flatMap_append,List.take_append_drop]
 rw [e,MF h]
 simp only [List.length_append,List.length_cons,List.length_nil]
 have h1 : l[k].1.data.toList.length = l[k].1.size:=by rw [Array.length_toList]; rfl
 have h2 : l[k].2.data.toList.length = l[k].2.size:=by rw [Array.length_toList]; rfl
 omega
def Bo (f : aF) : ByteArray×ByteArray:=(⟨f.name.toArray⟩,⟨f.value.toArray⟩)
theorem ME (l : List aF) : iE (l.map Bo) = gZ l:=by
 unfold iE gZ
 rw [List.flatMap_map]
 rfl
theorem Wk : ∀ {rows : List (List X)} {l : List aF},oX rows = some l→rows = l.map aG:=by
 intro rows
 induction rows with
 | nil=>intro l h; simp [oX] at h; subst h; rfl
 | cons r rows ih =>
  intro l h
  match r,h with
  | [.str a,.str b],h =>
   simp only [oX] at h
   cases hs : oX rows with
   | none=>rw [hs] at h; simp at h
   | some l' =>
    rw [hs] at h
    simp at h
    subst h
    rw [ih hs]
    simp
theorem Wh [B : Bs] {P : Program} {f0 : FuncId}
  (hc : ∀ (A : Option Addr) (cap : Nat) (fs : List (ByteArray×ByteArray)) (w : World),
   (∀ i f,fs[i]? = some f→∃ g o,A = some ⟨g,o,none⟩∧g < w.heap.size∧w.cell? ⟨g,o + i * 2,none⟩ = some (.string f.1)∧w.cell? ⟨g,o + i * 2 + 1,none⟩ = some (.string f.2)) →
   (iE fs).length≤140737488355328→fs.length≤140737488355328 →
   Calls P f0 #[.slice A fs.length cap] w fun e w'=>e = .returned (.string ⟨(iE fs).toArray⟩)∧Below w.heap.size w w') : (dR f0 Bg).Sound P :=
 rN fun xs r hg w zl zb cs hx hA hs=>by
  unfold Bg at hg
  split at hg
  ·rename_i rows
   split at hg
   ·rename_i l hl
    split at hg
    ·rename_i hh
     cases hg
     obtain ⟨c1,r1,rfl,h1,h2⟩:=map_cons hx
     obtain rfl:=map_nil h2
     obtain ⟨A,len,cap,e,rfl,hlen,hrow⟩:=Wb h1
     have hrows:=Wk hl
     have qV : len = l.length:=by rw [hlen,hrows]; simp
     have ok:=hA.ok _ (List.mem_cons_self ..)
     obtain ⟨k1,k2,k3,k4,k5⟩:=ok
     have hcell : ∀ i f,(l.map Bo)[i]? = some f→∃ g o,(A.map fun q=>(⟨q.1,q.2.1,q.2.2⟩ : Addr)) = some ⟨g,o,none⟩∧g < w.heap.size∧w.cell? ⟨g,o + i * 2,none⟩ = some (.string f.1)∧w.cell? ⟨g,o + i * 2 + 1,none⟩ = some (.string f.2):=by
      intro i f hi
      have hi2 : i < l.length:=by
       have:=List.getElem?_eq_some_iff.1 hi
       simpa using this.1
      obtain ⟨g,o,jH,h0,_⟩:=k2 i 0 (by omega) (by omega)
      obtain ⟨g',o',MX,h0',_⟩:=k2 i 1 (by omega) (by omega)
      rw [jH] at MX
      cases MX
      have hr:=hrow i (by omega)
      rw [hrows,List.getElem?_map,List.getElem?_eq_getElem hi2] at hr
      rw [List.getElem?_map,List.getElem?_eq_getElem hi2] at hi
      simp [List.range_succ,Bo] at hr hi
      obtain ⟨r1,r2⟩:=hr
      have q1:=wq r1.symm
      have q2:=wq r2.symm
      rw [q1] at h0
      rw [q2] at h0'
      subst hi
      refine ⟨g,o,by rw [jH]; rfl,?_,by simpa [C.val] using h0,by simpa [C.val] using h0'⟩
      rcases Nat.lt_or_ge g w.heap.size with h | h
      ·exact h
      ·simp [World.cell?,Array.getElem?_eq_none h] at h0
     have key:=hc (A.map fun q=>(⟨q.1,q.2.1,q.2.2⟩ : Addr)) cap (l.map Bo) w hcell (by rw [ME]; exact hh.1) (by simpa using hh.2)
     rw [ME,List.length_map,← qV] at key
     refine Calls.mono key fun e w' ⟨he,hb⟩=>?_
     exact ⟨.str ⟨(gZ l).toArray⟩,he,rfl,hb,wA (by have:=hh.1; simp only [ByteArray.size,List.size_toArray]; omega)⟩
    ·cases hg
   ·cases hg
  ·cases hg
end M
namespace M
open Go
def cE {β γ ε : Type} (go : Nat→γ→β→γ ⊕ ε) : Nat→List β→γ→γ ⊕ ε
 | _,[],g=>.inl g
 | i,b :: l,g=>match go i g b with
  | .inl g'=>cE go (i + 1) l g'
  | .inr e=>.inr e
theorem yB {xt : Nat} {β γ ε : Type} {f : ah→cj} (l : List β) (st : Nat→γ→ah) (go : Nat→γ→β→γ ⊕ ε) (E : γ→ah) (R : ε→Ex×ah) (Inv : Nat→γ→Prop) (g : γ) (h0 : Inv 0 g)
  (h : ∀ i b g,l[i]? = some b→i < l.length→Inv i g→f (st i g) = (match go i g b with | .inl g'=>some (.normal,st (i + 1) g') | .inr e=>lv (R e)))
  (hI : ∀ i b g g',l[i]? = some b→Inv i g→go i g b = .inl g'→Inv (i + 1) g')
  (hend : ∀ g,Inv l.length g→f (st l.length g) = some (.exit xt,E g)) :
  aC f (st 0 g) = (match cE go 0 l g with | .inl g'=>some (.exit xt,E g') | .inr e=>lv (R e)):=by
 suffices H : ∀ (r : List β) (i : Nat) (g : γ),Inv i g→l.drop i = r→i≤l.length→aC f (st i g) = (match cE go i r g with | .inl g'=>some (.exit xt,E g') | .inr e=>lv (R e)) from H l 0 g h0 rfl (Nat.zero_le _)
 intro r
 induction r with
 | nil =>
  intro i g hi hr hl
  have : i = l.length:=by
   have:=congrArg List.length hr
   simp at this
   omega
  subst this
  rw [dy,hend g hi]
  rfl
 | cons b r ih =>
  intro i g hi hr hl
  have hlt : i < l.length:=by
   rcases Nat.lt_or_ge i l.length with h | h
   ·exact h
   ·rw [List.drop_eq_nil_of_le h] at hr; cases hr
  have hd:=List.drop_eq_getElem_cons hlt
  rw [hr] at hd
  have hb : l[i]? = some b:=by
   rw [List.getElem?_eq_getElem hlt]
   cases hd; rfl
  have hr' : l.drop (i + 1) = r:=by cases hd; rfl
  rw [dy,h i b g hb hlt hi]
  unfold cE
  cases hg : go i g b with
  | inl g'=>exact ih (i + 1) g' (hI i b g g' hb hi hg) hr' hlt
  | inr e =>
   rcases hR : R e with ⟨x,s⟩
   cases x <;> simp [eu,lv,hR]
theorem Pk {β γ ε : Type} {go : Nat→γ→β→γ ⊕ ε} {g : γ} (r : List β) : ∀ (l : List β) (i : Nat),(∀ j (h : j < l.length),go (i + j) g l[j] = .inl g)→cE go i (l ++ r) g = cE go (i + l.length) r g
 | [],i,_=>by simp
 | b :: l,i,h=>by
  have h0:=h 0 (by simp)
  simp only [Nat.add_zero,List.getElem_cons_zero] at h0
  rw [List.cons_append,cE,h0]
  simp only
  rw [Pk r l (i + 1) (fun j hj=>by
   have:=h (j + 1) (by simp; omega)
   simp only [List.getElem_cons_succ] at this
   rw [show i + 1 + j = i + (j + 1) by omega]
   exact this),List.length_cons]
  congr 1
  omega
theorem Pj {β γ ε : Type} (go : Nat→γ→β→γ ⊕ ε) (k : Nat) : ∀ (l : List β) (i : Nat) (g : γ),cE (fun j=>go (j + k)) i l g = cE go (i + k) l g
 | [],_,_=>rfl
 | b :: l,i,g=>by
  rw [cE,cE]
  cases go (i + k) g b with
  | inl g' =>
   simp only
   rw [Pj go k l (i + 1) g',show i + 1 + k = i + k + 1 by omega]
  | inr e=>rfl
theorem I7 {β γ ε : Type} {go : Nat→γ→β→γ ⊕ ε} {I : Nat→γ→Prop} {O : ε→Prop} (n : Nat) (h : ∀ i g b,i < n→I i g→(∀ g',go i g b = .inl g'→I (i + 1) g')∧∀ e,go i g b = .inr e→O e) : ∀ (l : List β) (i : Nat) (g : γ),i + l.length = n→I i g→(∀ g',cE go i l g = .inl g'→I n g')∧∀ e,cE go i l g = .inr e→O e
 | [],i,g,hn,hg=>by
  have : i = n:=by simpa using hn
  subst this
  exact ⟨fun g' e=>by cases e; exact hg,fun e h=>by cases h⟩
 | b :: l,i,g,hn,hg=>by
  have h1:=h i g b (by simp at hn; omega) hg
  rw [cE]
  cases fS : go i g b with
  | inl g'=>exact I7 n h l (i + 1) g' (by simp at hn; omega) (h1.1 g' fS)
  | inr e=>exact ⟨fun g' e=>(by cases e),fun e he=>(by cases he; exact h1.2 _ fS)⟩
end M
namespace M
open Go
def crlf : ag:=[13,10]
def aX : ag:=[13,10,13,10]
def bC (c : UInt8) (s : ag) : Prop:=∀ b∈s,b≠c
theorem jg {c : UInt8} {s t : ag} : bC c (s ++ t)↔bC c s∧bC c t:=by
 unfold bC
 constructor
 ·intro h
  exact ⟨fun b hb=>h b (List.mem_append_left _ hb),fun b hb=>h b (List.mem_append_right _ hb)⟩
 ·intro h b hb
  rcases List.mem_append.1 hb with hb | hb
  ·exact h.1 b hb
  ·exact h.2 b hb
theorem rO {c b : UInt8} {s : ag} : bC c (b :: s)↔b≠c∧bC c s:=by simp [bC]
theorem Cz (c : UInt8) (t : ag) : ∀ (l r : ag),bC c l→Lib.index (l ++ r) (c :: t) = if Lib.index r (c :: t) = -1 then -1 else Lib.index r (c :: t) + l.length
 | [],r,_=>by
  simp only [List.nil_append,List.length_nil]
  split <;> simp_all
 | b :: l,r,h=>by
  rw [rO] at h
  have ih:=Cz c t l r h.2
  have hge:=Lib.index_ge r (c :: t)
  rw [List.cons_append,Lib.index,ih]
  have hcb : (c == b) = false:=by simp; exact fun e=>h.1 e.symm
  have hp : (c :: t).isPrefixOf (b :: (l ++ r)) = false:=by simp [List.isPrefixOf,hcb]
  rw [hp]
  simp only [Bool.false_eq_true,if_false,List.length_cons]
  by_cases g : Lib.index r (c :: t) = -1
  ·simp [g]
  ·have g2 : ¬ (Lib.index r (c :: t) + l.length = -1):=by omega
   simp only [g,if_false,beq_iff_eq,g2]
   omega
theorem aa2 (c : UInt8) (t : ag) (l : ag) (h : bC c l) : Lib.index l (c :: t) = -1:=by
 have:=Cz c t l [] h
 rw [List.append_nil] at this
 rw [this]
 rfl
theorem HD (c : UInt8) (t : ag) (l r : ag) (h : bC c l) : Lib.index (l ++ (c :: t ++ r)) (c :: t) = l.length:=by
 have h0 : Lib.index (c :: t ++ r) (c :: t) = 0:=by
  rw [List.cons_append,Lib.index,if_pos (by simp)]
 rw [Cz c t l _ h,h0]
 simp
theorem LU (c : UInt8) (t : ag) (l r : ag) (h : bC c l) : Lib.cut (l ++ (c :: t ++ r)) (c :: t) = (l,r,true):=by
 unfold Lib.cut
 rw [HD c t l r h,if_pos (by omega)]
 have e1 : ((l.length : Int)).toNat = l.length:=by omega
 rw [e1,List.take_left]
 have e2 : l ++ (c :: t ++ r) = (l ++ c :: t) ++ r:=by simp
 have e3 : l.length + (c :: t).length = (l ++ c :: t).length:=by simp
 rw [e2,e3,List.drop_left]
theorem aeg (c : UInt8) (t : ag) (n : Nat) (l : ag) (h : bC c l) : Lib.splitK (c :: t) 0 n l = [l]:=by
 cases n with
 | zero=>rfl
 | succ n=>rw [Lib.splitK,aa2 c t l h]; rfl
theorem aek (c : UInt8) (t : ag) (l : ag) (h : bC c l) : Lib.split l (c :: t) = [l]:=aeg c t _ l h
theorem aei (c : UInt8) (t : ag) (l r : ag) (h : bC c l) : Lib.split (l ++ (c :: t ++ r)) (c :: t) = l :: Lib.split r (c :: t):=by
 have hi:=HD c t l r h
 have e2 : l ++ (c :: t ++ r) = (l ++ c :: t) ++ r:=by simp
 have e3 : l.length + (c :: t).length = (l ++ c :: t).length:=by simp
 have hd : (l ++ (c :: t ++ r)).drop (l.length + (c :: t).length) = r:=by rw [e2,e3,List.drop_left]
 have hc:=Lib.count_hit (s:=l ++ (c :: t ++ r)) (sub:=c :: t) (by simp) hi
 rw [hd] at hc
 unfold Lib.split
 rw [hc,Nat.add_comm,Lib.splitK,hi]
 have g : ¬ (((l.length : Int)) == -1) = true:=by simp
 rw [if_neg g]
 have e1 : ((l.length : Int)).toNat = l.length:=by omega
 rw [e1,hd,Nat.add_zero,List.take_left]
def lines : List ag→ag
 | []=>[]
 | [l]=>l
 | l :: k :: ls=>l ++ (crlf ++ lines (k :: ls))
theorem N2 : ∀ (ls : List ag),ls≠[]→(∀ l∈ls,bC 13 l)→Lib.split (lines ls) crlf = ls
 | [l],_,h=>aek 13 [10] l (h l (List.mem_cons_self ..))
 | l :: k :: ls,_,h=>by
  have ih:=N2 (k :: ls) (by simp) fun x hx=>h x (List.mem_cons_of_mem _ hx)
  have:=aei 13 [10] l (lines (k :: ls)) (h l (List.mem_cons_self ..))
  show Lib.split (l ++ (crlf ++ lines (k :: ls))) crlf = _
  rw [show crlf = 13 :: [10] from rfl,this]
  rw [show (13 :: [10] : ag) = crlf from rfl,ih]
theorem abK : ∀ (ls : List ag),ls≠[]→(∀ l∈ls,l≠[])→(∀ l∈ls,bC 13 l)→∃ b t,lines ls = b :: t∧b≠13
 | [l],_,h,h2=>by
  obtain ⟨b,t,e⟩:=List.exists_cons_of_ne_nil (h l (List.mem_cons_self ..))
  exact ⟨b,t,e,h2 l (List.mem_cons_self ..) b (by rw [e]; exact List.mem_cons_self ..)⟩
 | l :: k :: ls,_,h,h2=>by
  obtain ⟨b,t,e⟩:=List.exists_cons_of_ne_nil (h l (List.mem_cons_self ..))
  exact ⟨b,t ++ (crlf ++ lines (k :: ls)),by show l ++ _ = _; rw [e]; rfl,h2 l (List.mem_cons_self ..) b (by rw [e]; exact List.mem_cons_self ..)⟩
theorem N1 (b : ag) : ∀ (ls : List ag),ls≠[]→(∀ l∈ls,l≠[])→(∀ l∈ls,bC 13 l)→Lib.index (lines ls ++ (aX ++ b)) aX = (lines ls).length
 | [l],_,h,h2=>HD 13 [10,13,10] l b (h2 l (List.mem_cons_self ..))
 | l :: k :: ls,_,h,h2=>by
  have hk : ∀ x∈k :: ls,x≠[]:=fun x hx=>h x (List.mem_cons_of_mem _ hx)
  have hk2 : ∀ x∈k :: ls,bC 13 x:=fun x hx=>h2 x (List.mem_cons_of_mem _ hx)
  have ih:=N1 b (k :: ls) (by simp) hk hk2
  obtain ⟨c,t,e,hc⟩:=abK (k :: ls) (by simp) hk hk2
  have e0 : lines (l :: k :: ls) ++ (aX ++ b) = l ++ (13 :: 10 :: (lines (k :: ls) ++ (aX ++ b))):=by
   show (l ++ (crlf ++ lines (k :: ls))) ++ (aX ++ b) = _
   simp [crlf]
  have e1 : (lines (l :: k :: ls)).length = l.length + 2 + (lines (k :: ls)).length:=by
   show (l ++ (crlf ++ lines (k :: ls))).length = _
   simp [crlf]; omega
  have hcb : ((13 : UInt8) == c) = false:=by simp; exact fun e=>hc e.symm
  have p1 : aX.isPrefixOf (13 :: 10 :: (lines (k :: ls) ++ (aX ++ b))) = false:=by
   rw [e]
   simp [aX,List.isPrefixOf,hcb]
  have p2 : aX.isPrefixOf (10 :: (lines (k :: ls) ++ (aX ++ b))) = false:=by simp [aX,List.isPrefixOf]
  have e2 : Lib.index (13 :: 10 :: (lines (k :: ls) ++ (aX ++ b))) aX = (lines (k :: ls)).length + 2:=by
   rw [Lib.index,p1,Lib.index,p2,ih]
   have q1 : ¬ (((lines (k :: ls)).length : Int) == -1) = true:=by simp
   simp only [Bool.false_eq_true,if_false,q1]
   have q2 : ¬ (((lines (k :: ls)).length : Int) + 1 == -1) = true:=by simp; omega
   simp only [q2]
   simp
   omega
  rw [e0,show aX = 13 :: [10,13,10] from rfl,Cz 13 [10,13,10] l _ (h2 l (List.mem_cons_self ..)),show (13 :: [10,13,10] : ag) = aX from rfl,e2,e1,if_neg (by omega)]
  omega
theorem abJ (b : ag) (ls : List ag) (h0 : ls≠[]) (h : ∀ l∈ls,l≠[]) (h2 : ∀ l∈ls,bC 13 l) : Lib.cut (lines ls ++ (aX ++ b)) aX = (lines ls,b,true):=by
 unfold Lib.cut
 rw [N1 b ls h0 h h2,if_pos (by omega)]
 have e1 : (((lines ls).length : Int)).toNat = (lines ls).length:=by omega
 have e2 : lines ls ++ (aX ++ b) = (lines ls ++ aX) ++ b:=by simp
 have e3 : (lines ls).length + aX.length = (lines ls ++ aX).length:=by simp
 rw [e1,List.take_left,e3,e2,List.drop_left]
def mE : ag:=[72,84,84,80,47,49,46,49]
def gp (f : aF) : ag:=f.name ++ ([58,32] ++ f.value)
def Bq (fs : List aF) : ag:=fs.flatMap fun f=>gp f ++ crlf
def je (b : ag) : ag:=cT ++ ([58,32] ++ aT b.length)
def jB (r : bP) : ag:=mE ++ 32 :: (aT r.status.toNat ++ [32,46])
def fm (r : bP) : List ag:=jB r :: (r.fields.map gp ++ [je r.body])
def fk (r : bP) : ag:=lines (fm r) ++ (aX ++ r.body)
def eV (r : bP) : ag:=if eT r = true then fk r else []
theorem ZR (fs : List aF) : gZ fs = Bq fs:=by
 unfold gZ Bq
 congr 1
 funext f
 simp [oU,gp,crlf]
theorem abI (fs : List aF) (l z : ag) : lines (l :: (fs.map gp ++ [z])) = l ++ (crlf ++ (Bq fs ++ z)):=by
 induction fs generalizing l with
 | nil=>rfl
 | cons f fs ih =>
  show l ++ (crlf ++ lines (gp f :: (fs.map gp ++ [z]))) = _
  rw [ih]
  simp [Bq]
theorem Pd (r : bP) : fk r = jB r ++ (crlf ++ (gZ r.fields ++ (je r.body ++ (aX ++ r.body)))):=by
 unfold fk fm
 rw [abI,ZR]
 simp
theorem oQ (c : UInt8) (hc : c.toNat < 48∨57 < c.toNat) (n : Nat) : bC c (aT n):=by
 intro b hb e
 have:=gV.1 (Gc n) b hb
 simp only [gm,decide_eq_true_eq] at this
 subst e
 omega
theorem EM (c : UInt8) (hc : qn c = false) {s : ag} (h : dI s = true) : bC c s:=by
 intro b hb e
 unfold dI at h
 simp only [Bool.and_eq_true] at h
 have:=gV.1 h.1 b hb
 rw [e,hc] at this
 cases this
theorem aeE {s : ag} (h : dI s = true) : s≠[]:=by
 rintro rfl
 simp [dI] at h
theorem J0 (c : UInt8) (hc : gS 32 c = false) {s : ag} (h : eX s = true) : bC c s:=by
 intro b hb e
 unfold eX at h
 simp only [Bool.and_eq_true] at h
 have:=gV.1 h.1.1 b hb
 rw [e,hc] at this
 cases this
theorem Bh {fs : List aF} (h : iC fs = true) {f : aF} (hf : f∈fs) : dI f.name = true∧eX f.value = true∧f.name≠cT:=by
 unfold iC at h
 simp only [Bool.and_eq_true] at h
 obtain ⟨i,hi,rfl⟩:=List.getElem_of_mem hf
 have:=gV.1 h.1 (fs[i],i) (List.mem_of_getElem? (i:=i) (by simp [hi]))
 unfold iD at this
 simp only [Bool.and_eq_true,Bool.not_eq_true',decide_eq_false_iff_not] at this
 exact ⟨this.1.1.1,this.1.1.2,this.2⟩
theorem Mc {fs : List aF} (h : iC fs = true) : fs.length≤8:=by
 unfold iC at h
 simp only [Bool.and_eq_true,decide_eq_true_eq] at h
 omega
theorem Wf {f : aF} (h1 : dI f.name = true) (h2 : eX f.value = true) : bC 13 (gp f)∧bC 10 (gp f)∧gp f≠[]:=by
 refine ⟨?_,?_,?_⟩
 ·unfold gp
  rw [jg,jg]
  exact ⟨EM 13 (by decide) h1,by simp [bC],J0 13 (by decide) h2⟩
 ·unfold gp
  rw [jg,jg]
  exact ⟨EM 10 (by decide) h1,by simp [bC],J0 10 (by decide) h2⟩
 ·have:=aeE h1
  simp [gp]
theorem abC (b : ag) : bC 13 (je b)∧bC 10 (je b)∧je b≠[]:=by
 refine ⟨?_,?_,by simp [je]⟩
 ·unfold je
  rw [jg,jg]
  exact ⟨by simp [bC,cT],by simp [bC],oQ 13 (by decide) _⟩
 ·unfold je
  rw [jg,jg]
  exact ⟨by simp [bC,cT],by simp [bC],oQ 10 (by decide) _⟩
theorem adW (r : bP) : bC 13 (jB r)∧bC 10 (jB r)∧jB r≠[]:=by
 refine ⟨?_,?_,by simp [jB,mE]⟩
 ·unfold jB
  rw [jg,rO,jg]
  exact ⟨by simp [bC,mE],by decide,oQ 13 (by decide) _,by simp [bC]⟩
 ·unfold jB
  rw [jg,rO,jg]
  exact ⟨by simp [bC,mE],by decide,oQ 10 (by decide) _,by simp [bC]⟩
theorem Pg {r : bP} (h : iC r.fields = true) : ∀ l∈fm r,bC 13 l∧bC 10 l∧l≠[]:=by
 intro l hl
 unfold fm at hl
 simp only [List.mem_cons,List.mem_append,List.mem_map,List.not_mem_nil,or_false] at hl
 rcases hl with rfl | ⟨f,hf,rfl⟩ | rfl
 ·exact adW r
 ·have:=Bh h hf
  exact Wf this.1 this.2.1
 ·exact abC r.body
end M
namespace M
open Go
open Classical in
noncomputable def kJ {α : Type} (body : α→ag) (ok : α→Bool) (z : α) (s : ag) : α×Bool :=
 if h : ∃ r,ok r = true∧body r = s then (h.choose,true) else (z,false)
theorem DF {α : Type} {body : α→ag} {ok : α→Bool} {z : α} {cand : ag→Option α} (hc : ∀ r,ok r = true→cand (body r) = some r) (s : ag) :
  kJ body ok z s = match cand s with
   | some r=>if ok r = true∧body r = s then (r,true) else (z,false)
   | none=>(z,false):=by
 unfold kJ
 by_cases h : ∃ r,ok r = true∧body r = s
 ·rw [dif_pos h]
  have h1:=h.choose_spec
  have h2:=hc _ h1.1
  rw [h1.2] at h2
  rw [h2]
  simp only
  rw [if_pos h1]
 ·rw [dif_neg h]
  cases hs : cand s with
  | none=>rfl
  | some r =>
   simp only
   rw [if_neg]
   exact fun hr=>h ⟨r,hr⟩
theorem O2 {α : Type} {body : α→ag} {ok : α→Bool} {z : α} {s : ag} (h : (kJ body ok z s).2 = true) : ok (kJ body ok z s).1 = true∧body (kJ body ok z s).1 = s:=by
 unfold kJ at h ⊢
 by_cases g : ∃ r,ok r = true∧body r = s
 ·rw [dif_pos g]; exact g.choose_spec
 ·rw [dif_neg g] at h; cases h
theorem O1 {α : Type} {body : α→ag} {ok : α→Bool} {z : α} {s : ag} (h : (kJ body ok z s).2 = false) : kJ body ok z s = (z,false):=by
 unfold kJ at h ⊢
 by_cases g : ∃ r,ok r = true∧body r = s
 ·rw [dif_pos g] at h; cases h
 ·rw [dif_neg g]
theorem O0 {α : Type} {body : α→ag} {ok : α→Bool} {z : α} {cand : ag→Option α} (hc : ∀ r,ok r = true→cand (body r) = some r) {r : α} (h : ok r = true) : kJ body ok z (body r) = (r,true):=by
 rw [DF hc,hc r h]
 simp only
 rw [if_pos ⟨h,trivial⟩]
theorem Tg {α : Type} {body : α→ag} {ok : α→Bool} {cand : ag→Option α} (hc : ∀ r,ok r = true→cand (body r) = some r) {a b : α} (ha : ok a = true) (hb : ok b = true) (h : body a = body b) : a = b:=by
 have h1:=hc a ha
 rw [h,hc b hb] at h1
 exact (Option.some.inj h1).symm
def colon : ag:=[58,32]
def ko : List ag→Option (List aF)
 | []=>some []
 | l :: ls=>if (Lib.cut l colon).2.2 = true then (if ls = []∧(Lib.cut l colon).1 = cT then some [] else (ko ls).map fun fs=>⟨(Lib.cut l colon).1,(Lib.cut l colon).2.1⟩ :: fs) else none
def jV (s : ag) : Option (ag×List aF×ag) :=
 if (Lib.cut s aX).2.2 = true∧((Lib.split (Lib.cut s aX).1 crlf).length : Int)≤10 then (ko (Lib.split (Lib.cut s aX).1 crlf).tail).map fun fs=>((Lib.split (Lib.cut s aX).1 crlf).headD [],fs,(Lib.cut s aX).2.1)
 else none
def jC (ws : List ag) : Option ag:=match ws with
 | [_,w,_]=>some w
 | _=>none
def mL (s : ag) : Option bP:=(jV s).bind fun p=>(jC (bg 32 p.1)).map fun w=>⟨(((aZ w).getD 0 : Nat) : Int),p.2.1,p.2.2⟩
def bX : bP:=⟨0,[],[]⟩
noncomputable def cB (s : ag) : bP×Bool:=kJ fk eT bX s
theorem zZ (w r : ag) (h : bC 32 w) : bg 32 (w ++ 32 :: r) = w :: bg 32 r:=by
 rw [zX 32 w _ h]
 simp [bg]
theorem Pf (r : bP) : bg 32 (jB r) = [mE,aT r.status.toNat,[46]]:=by
 unfold jB
 rw [zZ _ _ (by simp [bC,mE]),show ([32,46] : ag) = 32 :: [46] from rfl,zZ _ _ (oQ 32 (by decide) _),JG 32 [46] (by simp)]
theorem Ms (b : ag) : ∀ (fs : List aF),(∀ f∈fs,dI f.name = true∧eX f.value = true∧f.name≠cT)→ko (fs.map gp ++ [je b]) = some fs
 | [],_=>by
  have : Lib.cut (je b) colon = (cT,aT b.length,true):=LU 58 [32] cT (aT b.length) (by simp [bC,cT])
  simp [ko,this]
 | f :: fs,h=>by
  have hf:=h f (List.mem_cons_self ..)
  have ih:=Ms b fs fun x hx=>h x (List.mem_cons_of_mem _ hx)
  have : Lib.cut (gp f) colon = (f.name,f.value,true):=LU 58 [32] f.name f.value (EM 58 (by decide) hf.1)
  simp only [List.map_cons,List.cons_append,ko,this,ih]
  simp
theorem IZ {r : bP} (h : eT r = true) : (100≤r.status∧r.status≤599)∧iC r.fields = true∧r.body.length≤120:=by
 unfold eT at h
 simp only [Bool.and_eq_true,decide_eq_true_eq] at h
 exact ⟨h.1.1,h.1.2,by omega⟩
theorem I5 {r : bP} (h : eT r = true) : mL (fk r) = some r:=by
 obtain ⟨hs,hf,hb⟩:=IZ h
 have hl:=Pg hf
 have hne : fm r≠[]:=by simp [fm]
 have hc:=abJ r.body (fm r) hne (fun l h=>(hl l h).2.2) (fun l h=>(hl l h).1)
 have hsp:=N2 (fm r) hne (fun l h=>(hl l h).1)
 have hlen:=Mc hf
 have hp : jV (fk r) = some (jB r,r.fields,r.body):=by
  unfold jV fk
  rw [hc]
  simp only
  rw [hsp,if_pos ⟨trivial,by simp [fm]; omega⟩]
  have ht : (fm r).tail = r.fields.map gp ++ [je r.body]:=rfl
  rw [ht,Ms r.body r.fields fun f hf'=>Bh hf hf']
  rfl
 unfold mL
 rw [hp]
 simp only [Option.bind_some]
 rw [Pf]
 have hn : aZ (aT r.status.toNat) = some r.status.toNat:=kF.2 ⟨by omega,rfl⟩
 simp only [jC,Option.map_some,hn,Option.getD_some]
 have : ((r.status.toNat : Nat) : Int) = r.status:=by omega
 rw [this]
theorem DM {r : bP} {s : ag} (hs : s≠[]) : eV r = s↔eT r = true∧fk r = s:=by
 unfold eV
 constructor
 ·intro h
  split at h
  ·rename_i g; exact ⟨g,h⟩
  ·exact absurd h.symm hs
 ·rintro ⟨g,h⟩
  rw [if_pos g,h]
theorem Pe (r : bP) : fk r≠[]:=by
 rw [Pd]
 simp [jB,mE]
theorem I1 (r : bP) : eV r = []↔¬ eT r = true:=by
 unfold eV
 have:=Pe r
 split <;> simp_all
theorem adN (s : ag) : cB s = match mL s with
  | some r=>if eV r = s∧s≠[] then (r,true) else (bX,false)
  | none=>(bX,false):=by
 unfold cB
 rw [DF (cand:=mL) (fun r h=>I5 h) s]
 cases mL s with
 | none=>rfl
 | some r =>
  simp only
  by_cases hs : s = []
  ·subst hs
   rw [if_neg (fun h=>Pe r h.2),if_neg (by simp)]
  ·by_cases g : eV r = s
   ·rw [if_pos ((DM hs).1 g),if_pos ⟨g,hs⟩]
   ·rw [if_neg (mt (DM hs).2 g),if_neg (fun h=>g h.1)]
def lM : ag:=[111,98,106]
def p7 (o : Ob) : ag:=lM ++ 32 :: (o.path ++ 32 :: (dM o.t ++ 32 :: aT o.values.length))
def gR (l : List ag) : ag:=l.flatMap fun v=>v ++ [10]
def kG (o : Ob) : ag:=p7 o ++ 10 :: (gR o.values ++ fk o.resp)
def dS (o : Ob) : ag:=if cy o = true then kG o else []
def cF : Ob:=⟨[],[],[],bX,0⟩
noncomputable def fY (s : ag) : Ob×Bool:=kJ kG cy cF s
def e7 (s : ag) : ag×ag:=(cr 10 s).getD (s,[])
def dF : Nat→ag→List ag×ag
 | 0,s=>([],s)
 | n + 1,s=>((e7 s).1 :: (dF n (e7 s).2).1,(dF n (e7 s).2).2)
def j8 (ws : List ag) : Option (ag×ag×ag):=match ws with
 | [_,p,t,n]=>some (p,t,n)
 | _=>none
theorem Ga (p r : ag) (h : bC 10 p) : cr 10 (p ++ 10 :: r) = some (p,r):=by
 induction p with
 | nil=>simp [cr]
 | cons b p ih =>
  rw [rO] at h
  rw [List.cons_append,cr,if_neg h.1,ih h.2]
  rfl
theorem LR (p r : ag) (h : bC 10 p) : e7 (p ++ 10 :: r) = (p,r):=by
 unfold e7
 rw [Ga p r h]
 rfl
theorem PS (r : ag) : ∀ (l : List ag),(∀ v∈l,bC 10 v)→dF l.length (gR l ++ r) = (l,r)
 | [],_=>rfl
 | v :: l,h=>by
  have e : gR (v :: l) ++ r = v ++ 10 :: (gR l ++ r):=by simp [gR]
  rw [e,List.length_cons,dF,LR v _ (h v (List.mem_cons_self ..)),PS r l fun x hx=>h x (List.mem_cons_of_mem _ hx)]
theorem Qg (c : UInt8) {lo : Nat} (hc : gS lo c = false) {s : ag} (h : aI (gS lo) s = true) : bC c s:=by
 intro b hb e
 have:=gV.1 h b hb
 rw [e,hc] at this
 cases this
theorem OQ {s : ag} (h : fZ s = true) : bC 32 s∧bC 10 s:=by
 unfold fZ at h
 simp only [Bool.and_eq_true] at h
 exact ⟨Qg 32 (by decide) h.1.1,Qg 10 (by decide) h.1.1⟩
theorem Ou (c : UInt8) (hc : c.toNat < 48∨57 < c.toNat) (n : Int) : bC c (dM n):=by
 unfold dM
 split
 ·exact oQ c hc _
 ·simp [bC]
structure vL (o : Ob) : Prop where
 resp : eT o.resp = true
 path : fZ o.path = true
 t0 : 0≤o.t
 t1 : o.t≤1000000
 names : uJ o.names = true
 Qe : o.names = fK o.resp.fields
 len : o.values.length = o.names.length
 n4 : o.names.length≤4
 vals : ∀ v∈o.values,eX v = true
theorem yP {o : Ob} (h : cy o = true) : vL o:=by
 unfold cy at h
 simp only [Bool.and_eq_true,decide_eq_true_eq] at h
 have hn : o.names.length≤4:=by
  have:=h.1.1.1.2
  unfold uJ at this
  simp only [Bool.and_eq_true,decide_eq_true_eq] at this
  omega
 obtain ⟨⟨⟨⟨⟨⟨h1,h2⟩,h3,h4⟩,h5⟩,h6⟩,h7⟩,h8⟩:=h
 exact ⟨h1,h2,h3,h4,h5,h6,by omega,hn,fun v hv=>gV.1 h8 v hv⟩
theorem Ox {o : Ob} (h : vL o) : bg 32 (p7 o) = [lM,o.path,dM o.t,aT o.values.length]:=by
 unfold p7
 rw [zZ _ _ (by simp [bC,lM]),zZ _ _ (OQ h.path).1,zZ _ _ (Ou 32 (by decide) _),JG 32 _ (oQ 32 (by decide) _)]
theorem Ow {o : Ob} (h : vL o) : bC 10 (p7 o):=by
 unfold p7
 rw [jg,rO,jg,rO,jg,rO]
 exact ⟨by simp [bC,lM],by decide,(OQ h.path).2,by decide,Ou 10 (by decide) _,by decide,oQ 10 (by decide) _⟩
theorem Qc {o : Ob} (h : vL o) : ∀ v∈o.values,bC 10 v:=fun v hv=>J0 10 (by decide) (h.vals v hv)
noncomputable def yQ (p : ag) (t n : Nat) (b : ag) : Option Ob:=if n≤4 then (if (cB (dF n b).2).2 = true then some ⟨p,fK (cB (dF n b).2).1.fields,(dF n b).1,(cB (dF n b).2).1,t⟩ else none) else none
noncomputable def rP (s : ag) : Option Ob:=(j8 (bg 32 (e7 s).1)).bind fun w=>(aZ w.2.1).bind fun t=>(aZ w.2.2).bind fun n=>yQ w.1 t n (e7 s).2
theorem acB {o : Ob} (h : vL o) : yQ o.path o.t.toNat o.values.length (gR o.values ++ fk o.resp) = some o:=by
 have h1:=PS (fk o.resp) o.values (Qc h)
 have h2 : cB (fk o.resp) = (o.resp,true):=O0 (cand:=mL) (fun r h=>I5 h) h.resp
 unfold yQ
 have hl:=h.len
 have h4:=h.n4
 rw [if_pos (by omega),h1]
 simp only
 rw [h2,if_pos rfl]
 simp only
 have ht : ((o.t.toNat : Nat) : Int) = o.t:=by have:=h.t0; omega
 rw [ht,← h.Qe]
theorem Ov {o : Ob} (ho : cy o = true) : rP (kG o) = some o:=by
 have h:=yP ho
 unfold rP kG
 rw [LR _ _ (Ow h)]
 simp only
 rw [Ox h]
 have h0:=h.t0
 have h1:=h.t1
 have hl:=h.len
 have h4:=h.n4
 have hn : aZ (dM o.t) = some o.t.toNat:=by
  have e : o.t = ((o.t.toNat : Nat) : Int):=by omega
  rw [e,Ot _ (by omega)]
  simp
  omega
 have hd : aZ (aT o.values.length) = some o.values.length:=kF.2 ⟨by omega,rfl⟩
 simp only [j8,Option.bind_some,hn,hd]
 exact acB h
theorem acs (o : Ob) : kG o≠[]:=by simp [kG,p7,lM]
theorem OC {o : Ob} {s : ag} (hs : s≠[]) : dS o = s↔cy o = true∧kG o = s:=by
 unfold dS
 constructor
 ·intro h
  split at h
  ·rename_i g; exact ⟨g,h⟩
  ·exact absurd h.symm hs
 ·rintro ⟨g,h⟩
  rw [if_pos g,h]
theorem OB (o : Ob) : dS o = []↔¬ cy o = true:=by
 unfold dS
 have:=acs o
 split <;> simp_all
theorem Oy {cand : ag→Option Ob} (hc : ∀ o,cy o = true→cand (kG o) = some o) (hn : cand [] = none) (s : ag) : fY s = match cand s with
  | some o=>if dS o = s then (o,true) else (cF,false)
  | none=>(cF,false):=by
 unfold fY
 rw [DF (cand:=cand) hc s]
 cases hs : cand s with
 | none=>rfl
 | some o =>
  simp only
  have hs0 : s≠[]:=by rintro rfl; rw [hn] at hs; cases hs
  by_cases g : dS o = s
  ·rw [if_pos ((OC hs0).1 g),if_pos g]
  ·rw [if_neg (mt (OC hs0).2 g),if_neg g]
theorem acu : rP [] = none:=by simp [rP,e7,cr,bg,j8]
theorem acv (s : ag) : fY s = match rP s with
  | some o=>if dS o = s then (o,true) else (cF,false)
  | none=>(cF,false):=Oy (fun o h=>Ov h) acu s
end M
namespace M
open Go
def fR (s : ag) (i : Nat) (g : List ag×Nat) (b : UInt8) : (List ag×Nat) ⊕ (List ag×Nat) :=
 if b = 10∧1≤i∧s[i - 1]? = some 13∧g.2 + 1≤i then
  (if (s.take (i - 1)).drop g.2 = [] then .inr (g.1,i + 1) else .inl (g.1 ++ [(s.take (i - 1)).drop g.2],i + 1))
 else .inl g
def nv (s : ag) : (List ag×Nat) ⊕ (List ag×Nat):=cE (fun j=>fR s (j + 1)) 0 (s.drop 1) ([],0)
def gv (s : ag) : List ag:=match nv s with | .inl g=>g.1 | .inr g=>g.1
def jL (s : ag) : Int:=match nv s with | .inl g=>-1 | .inr g=>g.2
theorem Nd (s : ag) : nv s = cE (fR s) 0 s ([],0):=by
 unfold nv
 rw [Pj (fR s) 1]
 cases s with
 | nil=>rfl
 | cons b s =>
  rw [cE]
  have : fR (b :: s) 0 ([],0) b = .inl ([],0):=by unfold fR; rw [if_neg (by omega)]
  rw [this]
  rfl
theorem GQ (s A l R : ag) (out : List ag) (hs : s = A ++ (l ++ (crlf ++ R))) (hl : bC 13 l) :
  cE (fR s) A.length (l ++ (crlf ++ R)) (out,A.length) = if l = [] then .inr (out,A.length + 2) else cE (fR s) (A.length + l.length + 2) R (out ++ [l],A.length + l.length + 2):=by
 rw [Pk (crlf ++ R) l A.length (fun j hj=>by
  unfold fR
  rw [if_neg]
  rintro ⟨h1,h2,h3,h4⟩
  simp only at h4
  have hj0 : 0 < j:=by omega
  rw [hs,List.getElem?_append_right (by omega),List.getElem?_append_left (by omega)] at h3
  exact hl 13 (List.mem_of_getElem? h3) rfl)]
 have g1 : fR s (A.length + l.length) (out,A.length) 13 = .inl (out,A.length):=by
  unfold fR
  rw [if_neg]
  rintro ⟨h1,_⟩
  exact absurd h1 (by decide)
 have e1 : s[A.length + l.length]? = some 13:=by
  rw [hs,List.getElem?_append_right (by omega),List.getElem?_append_right (by omega)]
  have : A.length + l.length - A.length - l.length = 0:=by omega
  rw [this]
  rfl
 have e2 : (s.take (A.length + l.length)).drop A.length = l:=by
  have : s = (A ++ l) ++ (crlf ++ R):=by rw [hs]; simp
  rw [this,show A.length + l.length = (A ++ l).length by simp,List.take_left,List.drop_left]
 have g2 : fR s (A.length + l.length + 1) (out,A.length) 10 = if l = [] then .inr (out,A.length + l.length + 2) else .inl (out ++ [l],A.length + l.length + 2):=by
  unfold fR
  have e3 : A.length + l.length + 1 - 1 = A.length + l.length:=by omega
  rw [e3,if_pos ⟨rfl,by omega,e1,by simp only; omega⟩]
  simp only
  rw [e2]
 show cE (fR s) (A.length + l.length) (13 :: 10 :: R) (out,A.length) = _
 rw [cE,g1]
 simp only
 rw [cE,g2]
 by_cases h : l = []
 ·subst h
  simp
 ·simp only [h,if_false]
theorem Ng (s b : ag) : ∀ (ls : List ag) (A : ag) (out : List ag),ls≠[]→(∀ l∈ls,l≠[])→(∀ l∈ls,bC 13 l)→s = A ++ (lines ls ++ (aX ++ b)) →
  cE (fR s) A.length (lines ls ++ (aX ++ b)) (out,A.length) = .inr (out ++ ls,A.length + (lines ls).length + 4)
 | [l],A,out,_,h,h2,hs=>by
  have e : lines [l] ++ (aX ++ b) = l ++ (crlf ++ ([] ++ (crlf ++ b))):=by simp [lines,aX,crlf]
  rw [e] at hs ⊢
  have h0 : l≠[]:=h l (List.mem_cons_self ..)
  rw [GQ s A l _ out hs (h2 l (List.mem_cons_self ..)),if_neg h0]
  have e2 : A.length + l.length + 2 = (A ++ l ++ crlf).length:=by simp [crlf]; omega
  rw [e2,GQ s (A ++ l ++ crlf) [] b _ (by rw [hs]; simp) (by simp [bC]),if_pos rfl]
  simp [crlf,lines]
  omega
 | l :: k :: ls,A,out,_,h,h2,hs=>by
  have e : lines (l :: k :: ls) ++ (aX ++ b) = l ++ (crlf ++ (lines (k :: ls) ++ (aX ++ b))):=by
   show (l ++ (crlf ++ lines (k :: ls))) ++ (aX ++ b) = _
   simp
  rw [e] at hs ⊢
  have h0 : l≠[]:=h l (List.mem_cons_self ..)
  rw [GQ s A l _ out hs (h2 l (List.mem_cons_self ..)),if_neg h0]
  have e2 : A.length + l.length + 2 = (A ++ l ++ crlf).length:=by simp [crlf]; omega
  rw [e2,Ng s b (k :: ls) (A ++ l ++ crlf) (out ++ [l]) (by simp) (fun x hx=>h x (List.mem_cons_of_mem _ hx)) (fun x hx=>h2 x (List.mem_cons_of_mem _ hx)) (by rw [hs]; simp)]
  have e3 : (lines (l :: k :: ls)).length = l.length + 2 + (lines (k :: ls)).length:=by
   show (l ++ (crlf ++ lines (k :: ls))).length = _
   simp [crlf]; omega
  rw [e3]
  simp [crlf]
  omega
theorem aap (ls : List ag) (b : ag) (h0 : ls≠[]) (h : ∀ l∈ls,l≠[]) (h2 : ∀ l∈ls,bC 13 l) : nv (lines ls ++ (aX ++ b)) = .inr (ls,(lines ls).length + 4):=by
 have:=Ng (lines ls ++ (aX ++ b)) b ls [] [] h0 h h2 rfl
 rw [Nd]
 simpa using this
theorem Nf (s : ag) : wL wS (gv s)≤s.length∧jL s≤s.length∧-1≤jL s:=by
 have H:=I7 (go:=fR s) (I:=fun i g=>wL wS g.1≤g.2∧g.2≤i) (O:=fun g=>wL wS g.1≤g.2∧g.2≤s.length) s.length (fun i g b hi hg=>by
  unfold fR
  by_cases hc : b = 10∧1≤i∧s[i - 1]? = some 13∧g.2 + 1≤i
  ·rw [if_pos hc]
   by_cases hl : (s.take (i - 1)).drop g.2 = []
   ·rw [if_pos hl]
    exact ⟨fun g' h=>(by cases h),fun e h=>(by cases h; simp only; omega)⟩
   ·rw [if_neg hl]
    refine ⟨fun g' h=>?_,fun e h=>(by cases h)⟩
    cases h
    simp only
    have e : wL wS (g.1 ++ [(s.take (i - 1)).drop g.2]) = wL wS g.1 + 1 + ((s.take (i - 1)).drop g.2).length:=by simp [wL,wS]; omega
    have e2 : ((s.take (i - 1)).drop g.2).length = i - 1 - g.2:=by simp; omega
    rw [e,e2]
    omega
  ·rw [if_neg hc]
   exact ⟨fun g' h=>(by cases h; omega),fun e h=>(by cases h)⟩) s 0 ([],0) (by simp) (by simp [wL])
 rw [← Nd] at H
 unfold gv jL
 cases hr : nv s with
 | inl g=>have:=H.1 g hr; simp only; omega
 | inr g=>have:=H.2 g hr; simp only; omega
def oO (x : UInt8×UInt8) : Bool:=decide (x.1 = 58) && decide (x.2 = 32)
def qM (l : ag) : Option (Nat×(UInt8×UInt8)):=cC oO 0 (l.zip (l.drop 1))
def fW (l : ag) : List aF:=match qM l with
 | some (k,_)=>if l.take k = cT then [] else [⟨l.take k,l.drop (k + 2)⟩]
 | none=>[]
theorem Mm {β : Type} {p : β→Bool} : ∀ (l : List β) (k i : Nat) (b : β),l[i]? = some b→p b = true→(∀ j,j < i→∀ c,l[j]? = some c→p c = false)→cC p k l = some (k + i,b)
 | [],k,i,b,h,_,_=>by simp at h
 | a :: l,k,0,b,h,hp,_=>by
  simp at h
  subst h
  simp [cC,hp]
 | a :: l,k,i + 1,b,h,hp,hj=>by
  have h0:=hj 0 (by omega) a (by simp)
  rw [List.getElem?_cons_succ] at h
  have ih:=Mm l (k + 1) i b h hp fun j hj' c hc=>hj (j + 1) (by omega) c (by simpa using hc)
  simp only [cC,h0,Bool.false_eq_true,if_false,ih]
  congr 2
  omega
theorem VE (n v : ag) (h : bC 58 n) : qM (n ++ ([58,32] ++ v)) = some (n.length,(58,32)):=by
 unfold qM
 have:=Mm (p:=oO) ((n ++ ([58,32] ++ v)).zip ((n ++ ([58,32] ++ v)).drop 1)) 0 n.length (58,32) (by
  rw [List.getElem?_zip_eq_some]
  constructor
  ·rw [List.getElem?_append_right (by omega)]
   simp
  ·rw [List.getElem?_drop,List.getElem?_append_right (by omega)]
   have : 1 + n.length - n.length = 1:=by omega
   rw [this]
   rfl) (by decide) (fun j hj c hc=>by
  have h1:=(List.getElem?_zip_eq_some.1 hc).1
  rw [List.getElem?_append_left hj] at h1
  have:=h c.1 (List.mem_of_getElem? h1)
  simp [oO,this])
 rw [this]
 simp
theorem N0 {f : aF} (h : bC 58 f.name) : fW (gp f) = if f.name = cT then [] else [f]:=by
 unfold fW gp
 rw [VE _ _ h]
 simp only
 have e1 : (f.name ++ ([58,32] ++ f.value)).take f.name.length = f.name:=List.take_left
 have e2 : (f.name ++ ([58,32] ++ f.value)).drop (f.name.length + 2) = f.value:=by
  have : f.name ++ ([58,32] ++ f.value) = (f.name ++ [58,32]) ++ f.value:=by simp
  rw [this,show f.name.length + 2 = (f.name ++ [58,32]).length by simp,List.drop_left]
 rw [e1,e2]
theorem abE (b : ag) : fW (je b) = []:=by
 have:=N0 (f:=⟨cT,aT b.length⟩) (by simp [bC,cT])
 simp only [if_true] at this
 exact this
theorem abG (b : ag) (fs : List aF) (h : ∀ f∈fs,dI f.name = true∧eX f.value = true∧f.name≠cT) : (fs.map gp ++ [je b]).flatMap fW = fs:=by
 induction fs with
 | nil=>simp [abE]
 | cons f fs ih =>
  have hf:=h f (List.mem_cons_self ..)
  have ih:=ih fun x hx=>h x (List.mem_cons_of_mem _ hx)
  rw [List.map_cons,List.cons_append,List.flatMap_cons,N0 (EM 58 (by decide) hf.1),if_neg hf.2.2,ih]
  rfl
theorem abF (l : ag) : wL aJ (fW l)≤l.length + 1:=by
 unfold fW
 cases hc : qM l with
 | none=>simp [wL]
 | some x =>
  simp only
  split
  ·simp [wL]
  ·simp [wL,aJ]; omega
theorem abH (ls : List ag) : wL aJ (ls.flatMap fW)≤wL wS ls:=by
 induction ls with
 | nil=>simp [wL]
 | cons l ls ih =>
  have h:=abF l
  simp only [wL,List.flatMap_cons,List.length_append,List.map_append,List.sum_append,List.length_cons,List.map_cons,List.sum_cons,wS] at *
  omega
def mM (s : ag) : Option bP:=if 0≤jL s∧gv s≠[] then (jC (bg 32 ((gv s).headD []))).map fun w=>⟨(((aZ w).getD 0 : Nat) : Int),(gv s).tail.flatMap fW,s.drop (jL s).toNat⟩ else none
theorem adX {r : bP} (h : eT r = true) : mM (fk r) = some r:=by
 obtain ⟨hs,hf,hb⟩:=IZ h
 have hl:=Pg hf
 have hne : fm r≠[]:=by simp [fm]
 have hr:=aap (fm r) r.body hne (fun l h=>(hl l h).2.2) (fun l h=>(hl l h).1)
 have e1 : gv (fk r) = fm r:=by unfold gv fk; rw [hr]
 have e2 : jL (fk r) = (((lines (fm r)).length + 4 : Nat) : Int):=by unfold jL fk; rw [hr]
 unfold mM
 rw [e1,e2,if_pos ⟨by omega,hne⟩]
 have e3 : (fm r).headD [] = jB r:=rfl
 have e4 : (fm r).tail = r.fields.map gp ++ [je r.body]:=rfl
 have e5 : (fk r).drop (((lines (fm r)).length + 4 : Nat) : Int).toNat = r.body:=by
  unfold fk
  have : lines (fm r) ++ (aX ++ r.body) = (lines (fm r) ++ aX) ++ r.body:=by simp
  rw [this,show (((lines (fm r)).length + 4 : Nat) : Int).toNat = (lines (fm r) ++ aX).length by simp [aX]; omega,List.drop_left]
 rw [e3,e4,e5,abG r.body r.fields fun f hf'=>Bh hf hf',Pf]
 have hn : aZ (aT r.status.toNat) = some r.status.toNat:=kF.2 ⟨by omega,rfl⟩
 simp only [jC,Option.map_some,hn,Option.getD_some]
 have : ((r.status.toNat : Nat) : Int) = r.status:=by omega
 rw [this]
theorem adY : mM [] = none:=by
 unfold mM
 rw [if_neg]
 intro h
 have : jL [] = -1:=rfl
 omega
theorem adO (s : ag) : cB s = match mM s with
  | some r=>if eV r = s then (r,true) else (bX,false)
  | none=>(bX,false):=by
 unfold cB
 rw [DF (cand:=mM) (fun r h=>adX h) s]
 cases hs : mM s with
 | none=>rfl
 | some r =>
  simp only
  have hs0 : s≠[]:=by rintro rfl; rw [adY] at hs; cases hs
  by_cases g : eV r = s
  ·rw [if_pos ((DM hs0).1 g),if_pos g]
  ·rw [if_neg (mt (DM hs0).2 g),if_neg g]
theorem adZ {s : ag} {r : bP} (h : mM s = some r) : bp r≤2 * s.length:=by
 unfold mM at h
 split at h
 ·obtain ⟨w,hw,rfl⟩:=Option.map_eq_some_iff.1 h
  have h1:=Nf s
  have h2:=abH (gv s).tail
  have h3 : wL wS (gv s).tail≤wL wS (gv s):=by cases gv s <;> simp [wL]; omega
  simp only [bp,List.length_drop]
  omega
 ·cases h
end M
namespace M
open Go
theorem J2 {α : Type} (w : α→Nat) (l : List α) (n : Nat) : wL w (l.take n)≤wL w l:=by
 have h : l = l.take n ++ l.drop n:=(List.take_append_drop n l).symm
 have h1:=congrArg List.length h
 have h2:=congrArg (fun l=>(l.map w).sum) h
 simp only [List.length_append] at h1
 simp only [List.map_append,List.sum_append] at h2
 unfold wL
 omega
end M
namespace M
open Go
end M
namespace M
open Go
def dQ {α : Type} (q : α→Int) (k : α) : List α→List α
 | []=>[k]
 | x :: l=>if q k < q x then k :: x :: l else x :: dQ q k l
def gb {α : Type} (q : α→Int) (l : List α) : List α:=l.foldl (fun S k=>dQ q k S) []
def p9 {α : Type} (q : α→Int) (l : List α) : Prop:=l.Pairwise fun a b=>q a≤q b
theorem CC {α : Type} (q : α→Int) (k : α) : ∀ l : List α,(dQ q k l).Perm (k :: l)
 | []=>List.Perm.refl _
 | x :: l=>by
  unfold dQ
  split
  ·exact List.Perm.refl _
  ·exact ((CC q k l).cons x).trans (List.Perm.swap ..)
theorem aa5 {α : Type} {q : α→Int} {k x : α} {l : List α} : x∈dQ q k l↔x = k∨x∈l:=by
 rw [(CC q k l).mem_iff]; simp
theorem NI {α : Type} (q : α→Int) (k : α) (l : List α) : (dQ q k l).length = l.length + 1:=by
 rw [(CC q k l).length_eq]; rfl
theorem NJ {α : Type} {q : α→Int} {k : α} : ∀ {l : List α},p9 q l→p9 q (dQ q k l)
 | [],_=>by simp [dQ,p9]
 | x :: l,h=>by
  unfold p9 at h ⊢
  rw [List.pairwise_cons] at h
  unfold dQ
  split
  ·rename_i g
   rw [List.pairwise_cons]
   refine ⟨fun y hy=>?_,List.pairwise_cons.2 h⟩
   rcases List.mem_cons.1 hy with rfl | hy
   ·omega
   ·have:=h.1 y hy; omega
  ·rename_i g
   rw [List.pairwise_cons]
   refine ⟨fun y hy=>?_,NJ h.2⟩
   rcases aa5.1 hy with rfl | hy
   ·omega
   ·exact h.1 y hy
theorem aee {α : Type} (q : α→Int) (l : List α) (k : α) : gb q (l ++ [k]) = dQ q k (gb q l):=by simp [gb]
theorem JF {α : Type} (q : α→Int) (l : List α) : (gb q l).Perm l:=by
 suffices H : ∀ (l S : List α),(l.foldl (fun S k=>dQ q k S) S).Perm (S ++ l) by simpa [gb] using H l []
 intro l
 induction l with
 | nil=>intro S; simp
 | cons k l ih =>
  intro S
  rw [List.foldl_cons]
  refine (ih _).trans ?_
  refine ((CC q k S).append_right l).trans ?_
  simpa using (List.perm_middle (a:=k) (l₁:=S) (l₂:=l)).symm
theorem NG {α : Type} {q : α→Int} {k : α} : ∀ {l r : List α},(∀ x∈l,q x≤q k)→dQ q k (l ++ r) = l ++ dQ q k r
 | [],r,_=>rfl
 | x :: l,r,h=>by
  have h1:=h x (List.mem_cons_self ..)
  rw [List.cons_append,dQ,if_neg (by omega),NG fun y hy=>h y (List.mem_cons_of_mem _ hy)]
  rfl
theorem NH {α : Type} {q : α→Int} {k : α} {l : List α} (h : ∀ x∈l,q k < q x) : dQ q k l = k :: l:=by
 cases l with
 | nil=>rfl
 | cons x l=>rw [dQ,if_pos (h x (List.mem_cons_self ..))]
def iK {α : Type} (q : α→Int) (k : α) (g : List α×Bool) (x : α) : List α×Bool :=
 (if g.2 = false∧q k < q x then g.1 ++ [k,x] else g.1 ++ [x],g.2 || decide (q k < q x))
def CB {α : Type} (k : α) (g : List α×Bool) : List α:=if g.2 = true then g.1 else g.1 ++ [k]
theorem aa4 {α : Type} (q : α→Int) (k : α) (l : List α) (out : List α) : CB k (l.foldl (iK q k) (out,false)) = out ++ dQ q k l:=by
 have H : ∀ (l out : List α),l.foldl (iK q k) (out,true) = (out ++ l,true):=by
  intro l
  induction l with
  | nil=>intro out; simp
  | cons x l ih=>intro out; rw [List.foldl_cons]; simp only [iK,Bool.true_eq_false,false_and,if_false,Bool.true_or]; rw [ih]; simp
 induction l generalizing out with
 | nil=>simp [CB,dQ]
 | cons x l ih =>
  rw [List.foldl_cons]
  unfold dQ
  by_cases g : q k < q x
  ·simp only [iK,g,and_self,if_true,decide_true,Bool.or_true]
   rw [H]
   simp [CB]
  ·simp only [iK,g,and_false,if_false,decide_false,Bool.or_false]
   rw [ih]
   simp
def tU {α : Type} (q : α→Int) (k : α) : List α→List α→List α
 | [],done=>k :: done
 | x :: rev,done=>if q k < q x then tU q k rev (x :: done) else (x :: rev).reverse ++ k :: done
theorem NK {α : Type} {q : α→Int} {k : α} : ∀ (rev done : List α),p9 q rev.reverse→(∀ x∈done,q k < q x)→tU q k rev done = dQ q k (rev.reverse ++ done)
 | [],done,_,h=>by simp [tU,NH h]
 | x :: rev,done,ho,h=>by
  have e : (x :: rev).reverse = rev.reverse ++ [x]:=by simp
  have ho':=ho
  rw [e] at ho'
  unfold p9 at ho'
  rw [List.pairwise_append] at ho'
  unfold tU
  split
  ·rename_i g
   rw [NK rev (x :: done) ho'.1 (fun y hy=>by
    rcases List.mem_cons.1 hy with rfl | hy
    ·exact g
    ·exact h y hy)]
   simp
  ·rename_i g
   rw [NG (fun y hy=>by
    rw [e] at hy
    rcases List.mem_append.1 hy with hy | hy
    ·have:=ho'.2.2 y hy x (by simp); omega
    ·simp at hy; subst hy; omega),NH h]
end M
