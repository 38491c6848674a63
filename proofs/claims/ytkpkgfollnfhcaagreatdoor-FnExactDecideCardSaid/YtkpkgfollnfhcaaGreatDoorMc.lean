/- A machine of values for loaded Go functions, sound for the calculus of calls; part 3; no conditions. -/
import Derived.Test.YtkpkgfollnfhcaaGreatDoorMb
import Derived.Sort.Grow
import Derived.Deep.Draws
import Derived.Lib.LaidTab
import Derived.MakeChecks
import Derived.Laws.BitsLemmas
import Derived.ChangeArms
import Derived.ChangeReads
import Derived.ChangeOld
import Derived.ChangeShapes
import Derived.SizedLaws
import Derived.RowKit
import Derived.Below
import Derived.Lib.ItoaNum
import Derived.Lib.TrimByte
import Derived.Lib.AtoiAllCases
import Derived.Lib.SplitLaws
import Derived.Lib.Join
import Derived.Lib.IndexMore
import Derived.HandedShaped
import Derived.Lib.Strings
import Derived.Lib.Slices
import Derived.Lib.Walk
import Derived.Stop.LaidErr
import Derived.RangeFuncNested
import Derived.RangeFuncCalls
import Derived.OrdersHeld
import Derived.OrdersIn
set_option linter.unusedSectionVars false
set_option linter.unusedVariables false
set_option linter.unusedSimpArgs false
set_option linter.unusedVariables false
set_option linter.unusedSimpArgs false
namespace M
open Go
section
variable {C C' : bD} {ok : FuncId→Bool}
theorem Uk {C : bD} {d : Option Nat} {s s' : ag} {f : FuncId} {xs : List X} (h : lX d s (C f xs) = some s') : ∃ o,C f xs = some o∧∀ C' : bD,C' f xs = some o→lX d s (C' f xs) = some s':=by
  cases ho : C f xs with
  | none=>rw [ho] at h; cases h
  | some o=>rw [ho] at h; exact ⟨o,rfl,fun C' h'=>by rw [h']; exact h⟩
theorem Uj {C : bD} {d : Option Nat} {as : List (AV×PM)} {back : rV} {s' : ag} {f : FuncId} {xs : List X} (h : kE d as back (C f xs) = some s') : ∃ o,C f xs = some o∧∀ C' : bD,C' f xs = some o→kE d as back (C' f xs) = some s':=by
  cases ho : C f xs with
  | none=>rw [ho] at h; cases h
  | some o=>rw [ho] at h; exact ⟨o,rfl,fun C' h'=>by rw [h']; exact h⟩
theorem E9 {f : FuncId} {d : Option Nat} {as : List (AV×PM)} {fv : Option AV} {s s' : ag} (h : mC C f d as fv s = some s') :
    ∃ xs o,C f xs = some o∧∀ C' : bD,C' f xs = some o→mC C' f d as fv s = some s':=by
  unfold mC at h ⊢
  by_cases hb : X.bare.fQ (bn as s).1 = true
  · simp only [if_pos hb] at h ⊢
    cases hm : cJ as with
    | none =>
      simp only [hm] at h ⊢
      by_cases hc : pT (bn as s).2 fv f = true
      · simp only [if_pos hc] at h ⊢
        obtain ⟨o,h1,h2⟩:=Uk h
        exact ⟨_,o,h1,h2⟩
      · simp only [if_neg hc] at h; cases h
    | some xn =>
      obtain ⟨x,n⟩:=xn
      simp only [hm] at h ⊢
      unfold kV at h ⊢
      split at h
      · split at h
        · rename_i y back h1 h2
          simp only [h1,if_pos h2]
          obtain ⟨o,h1,h2⟩:=Uj h
          exact ⟨_,o,h1,h2⟩
        · cases h
      · cases h
  · simp only [if_neg hb] at h; cases h
theorem FH {o : bE} {s s' : ag} (h : bQ C ok o s = some s') : (∀ C' : bD,bQ C' ok o s = some s')∨∃ f xs r,C f xs = some r∧∀ C' : bD,C' f xs = some r→bQ C' ok o s = some s':=by
  cases o with
  | call d f as =>
    obtain ⟨xs,o,h1,h2⟩:=E9 (C:=C) h
    exact .inr ⟨f,xs,o,h1,h2⟩
  | jZ d x as =>
    simp only [bQ] at h ⊢
    split at h
    · rename_i f caps hf
      split at h
      · rename_i hok
        obtain ⟨xs,o,h1,h2⟩:=E9 (C:=C) h
        refine .inr ⟨f,xs,o,h1,fun C' h'=>?_⟩
        simp only [if_pos hok]
        exact h2 C' h'
      · cases h
    · cases h
  | iq d f x as =>
    simp only [bQ] at h ⊢
    split at h
    · rename_i cs h1
      split at h
      · rename_i h2
        simp only [if_pos h2]
        refine .inr ?_
        cases ho : C f (.agg (bp cs s).1 :: dV (bp cs s).2 .dead as (as.map fun _=>.dead)) with
        | none=>rw [ho] at h; cases h
        | some r=>rw [ho] at h; exact ⟨f,_,r,ho,fun C' h'=>by rw [h']; exact h⟩
      · cases h
    · cases h
  | _=>exact .inl fun _=>h
theorem FD {g : G} {s s' : ag} (h : eG C ok g s = some s') : (∀ C' : bD,eG C' ok g s = some s')∨∃ f xs r,C f xs = some r∧∀ C' : bD,C' f xs = some r→eG C' ok g s = some s':=by
  obtain ⟨gg,o⟩:=g
  cases gg with
  | none=>exact FH h
  | some tb =>
    obtain ⟨t,b⟩:=tb
    simp only [eG] at h ⊢
    split at h
    · rename_i v hv
      split at h
      · rename_i h1
        simp only [hv,if_pos h1]
        exact FH h
      · rename_i h1
        simp only [hv,if_neg h1]
        exact .inl fun _=>h
    · exact .inl fun _=>h
    · cases h
def bD.le (C C' : bD) : Prop:=∀ f xs o,C f xs = some o→C' f xs = some o
theorem FF (hl : C.le C') {g : G} {s s' : ag} (h : eG C ok g s = some s') : eG C' ok g s = some s':=by
  rcases FD h with h | ⟨f,xs,r,h1,h2⟩
  · exact h _
  · exact h2 _ (hl _ _ _ h1)
theorem Be (hl : C.le C') : ∀ {l : List G} {s s' : ag},gq C ok l s = some s'→gq C' ok l s = some s'
  | [],_,_,h=>h
  | g :: l,s,s',h=>by
    simp only [gq] at h ⊢
    cases h1 : eG C ok g s with
    | none=>rw [h1] at h; cases h
    | some s1=>rw [h1] at h; rw [FF hl h1]; exact Be hl h
theorem pZ (hl : C.le C') : ∀ {t : DT} {s s' : ag},eD C ok t s = some s'→eD C' ok t s = some s'
  | .nil _,_,_,h=>h
  | .step _ g l,s,s',h=>by
    simp only [eD] at h ⊢
    cases h1 : eG C ok g s with
    | none=>rw [h1] at h; cases h
    | some s1=>rw [h1] at h; rw [FF hl h1]; exact pZ hl h
  | .alt a b,s,s',h=>by
    simp only [eD] at h ⊢
    unfold same at h
    split at h
    · rename_i x y hx hy
      rw [pZ hl hx,pZ hl hy]
      exact h
    · cases h
  | .kp _ t,s,s',h=>pZ (t:=t) hl h
theorem z8 {k k' : ag→bN} {r r' : bN} {o : Ex×ag} (h : dD k r = some o) (hr : ∀ x,r = some x→r' = some x) (hk : ∀ s,k s = some o→k' s = some o) : dD k' r' = some o:=by
  unfold dD at h
  split at h
  · rw [hr _ rfl]; exact hk _ h
  · rw [hr _ rfl]; exact h
  · rw [hr _ rfl]; exact h
  · cases h
theorem qF {f f' : ag→bN} (hf : ∀ s o,f s = some o→f' s = some o) : ∀ {n m : Nat} {s : ag} {o : Ex×ag},n≤m→iter f n s = some o→iter f' m s = some o
  | 0,_,_,_,_,h=>by cases h
  | n + 1,0,_,_,hn,_=>by omega
  | n + 1,m + 1,s,o,hn,h=>z8 h (hf s) fun s' h'=>qF hf (by omega) h'
end
noncomputable def aJ (f : ag→bN) (s : ag) : bN:=by
  classical exact if h : ∃ o : Ex×ag,∃ n,iter f n s = some o then some (Classical.choose h) else none
theorem uE {f : ag→bN} {s : ag} {o : Ex×ag} {n : Nat} (h : iter f n s = some o) : aJ f s = some o:=by
  have hh : ∃ o : Ex×ag,∃ n,iter f n s = some o:=⟨o,n,h⟩
  unfold aJ
  rw [dif_pos hh]
  obtain ⟨m,hm⟩:=Classical.choose_spec hh
  have h1:=qF (fun _ _ h=>h) (Nat.le_max_left m n) hm
  have h2:=qF (fun _ _ h=>h) (Nat.le_max_right m n) h
  rw [h1] at h2
  exact h2
theorem Dc {f : ag→bN} {s : ag} {o : Ex×ag} (h : aJ f s = some o) : ∃ n,iter f n s = some o:=by
  unfold aJ at h
  split at h
  · rename_i hh
    cases h
    exact Classical.choose_spec hh
  · cases h
theorem Dt {α : Type} {a b : Option α} (h1 : ∀ x,a = some x→b = some x) (h2 : ∀ x,b = some x→a = some x) : a = b:=by
  cases a with
  | none=>cases b with
    | none=>rfl
    | some y=>exact h2 y rfl
  | some x=>exact (h1 x rfl).symm
theorem gE (f : ag→bN) (s : ag) : aJ f s = dD (aJ f) (f s):=by
  refine Dt (fun o h=>?_) fun o h=>?_
  · obtain ⟨n,hn⟩:=Dc h
    cases n with
    | zero=>cases hn
    | succ n=>exact z8 hn (fun _ h=>h) fun s' h'=>uE h'
  · unfold dD at h
    split at h
    · rename_i s' hs
      obtain ⟨n,hn⟩:=Dc h
      refine uE (n:=n + 1) ?_
      simp only [iter,hs,dD]; exact hn
    · rename_i hs; refine uE (n:=1) ?_; simp only [iter,hs,dD]; exact h
    · rename_i hs; refine uE (n:=1) ?_; simp only [iter,hs,dD]; exact h
    · cases h
noncomputable def aj (C : bD) (ok : FuncId→Bool) : A→ag→bN
  | .skip,s=>some (.normal,s)
  | .ret,s=>some (.ret,s)
  | .exit id,s=>some (.exit id,s)
  | .ops l,s=>fk (gq C ok l s)
  | .draw t,s=>fk (eD C ok t s)
  | .seq a b,s=>dD (aj C ok b) (aj C ok a s)
  | .cond c a b,s=>match ai s c with
    | .bool t=>if t = true then aj C ok a s else aj C ok b s
    | _=>none
  | .block id b,s=>ij id (aj C ok b s)
  | .loop b,s=>aJ (aj C ok b) s
  | .pk ks b,s=>iK ks (aj C ok b s)
theorem ze {a b : Option ag} (h : ∀ s,a = some s→b = some s) {o : Ex×ag} (ho : fk a = some o) : fk b = some o:=by
  unfold fk at ho
  split at ho
  · rw [h _ rfl]; exact ho
  · cases ho
theorem EI {id : Nat} {a b : bN} (h : ∀ s,a = some s→b = some s) {o : Ex×ag} (ho : ij id a = some o) : ij id b = some o:=by
  cases a with
  | none=>cases ho
  | some x=>rw [h _ rfl]; exact ho
theorem HW {ks : List Nat} {a b : bN} (h : ∀ s,a = some s→b = some s) {o : Ex×ag} (ho : iK ks a = some o) : iK ks b = some o:=by
  cases a with
  | none=>cases ho
  | some x=>rw [h _ rfl]; exact ho
theorem Nk {C C' : bD} {ok : FuncId→Bool} (hl : C.le C') {N : Nat} : ∀ {t : A} {s : ag} {o : Ex×ag},eA C ok N t s = some o→aj C' ok t s = some o:=by
  intro t
  induction t with
  | skip=>intro s o h; exact h
  | ret=>intro s o h; exact h
  | exit id=>intro s o h; exact h
  | ops l=>intro s o h; exact ze (fun s' h'=>Be hl h') h
  | draw l=>intro s o h; exact ze (fun s' h'=>pZ hl h') h
  | seq a b fj gC=>intro s o h; exact z8 h (fun x hx=>fj hx) fun s' h'=>gC h'
  | cond c a b fj gC =>
    intro s o h
    simp only [eA] at h
    simp only [aj]
    split at h
    · rename_i t ht
      try rw [ht]
      cases t with
      | true=>exact fj h
      | false=>exact gC h
    · cases h
  | block id b ih=>intro s o h; exact EI (fun x hx=>ih hx) h
  | loop b ih=>intro s o h; exact uE (qF (fun s o h=>ih h) (Nat.le_refl _) h)
  | pk ks b ih=>intro s o h; exact HW (fun x hx=>ih hx) h
theorem Nl {C C' : bD} {ok : FuncId→Bool} (hl : C.le C') {N N' : Nat} (hN : N≤N') : ∀ {t : A} {s : ag} {o : Ex×ag},eA C ok N t s = some o→eA C' ok N' t s = some o:=by
  intro t
  induction t with
  | skip=>intro s o h; exact h
  | ret=>intro s o h; exact h
  | exit id=>intro s o h; exact h
  | ops l=>intro s o h; exact ze (fun s' h'=>Be hl h') h
  | draw l=>intro s o h; exact ze (fun s' h'=>pZ hl h') h
  | seq a b fj gC=>intro s o h; exact z8 h (fun x hx=>fj hx) fun s' h'=>gC h'
  | cond c a b fj gC =>
    intro s o h
    simp only [eA] at h ⊢
    split at h
    · rename_i t ht
      cases t with
      | true=>exact fj h
      | false=>exact gC h
    · cases h
  | block id b ih=>intro s o h; exact EI (fun x hx=>ih hx) h
  | loop b ih=>intro s o h; exact qF (fun s o h=>ih h) hN h
  | pk ks b ih=>intro s o h; exact HW (fun x hx=>ih hx) h
theorem wO {L : bD} {T : fO} : ∀ {n m : Nat},n≤m→(exec L T n).le (exec L T m)
  | 0,_,_,_,_,_,h=>by cases h
  | n + 1,0,hn,_,_,_,_=>by omega
  | n + 1,m + 1,hn,f,xs,o,h=>by
    have hnm : n≤m:=by omega
    simp only [exec] at h ⊢
    split at h
    · rename_i F hF
      unfold eF at h ⊢
      split at h
      · rename_i hl
        rw [if_pos hl]
        cases hr : eA (exec L T n) (av T) n F.body (jt xs) with
        | none=>rw [hr] at h; cases h
        | some r=>rw [hr] at h; rw [Nl (wO hnm) hnm hr]; exact h
      · cases h
    · exact h
noncomputable def ev (L : bD) (T : fO) : bD:=fun f xs=>by
  classical exact if h : ∃ o : Out,∃ n,exec L T n f xs = some o then some (Classical.choose h) else none
theorem Bh {L : bD} {T : fO} {f : FuncId} {xs : List X} {o : Out} {n : Nat} (h : exec L T n f xs = some o) : ev L T f xs = some o:=by
  have hh : ∃ o : Out,∃ n,exec L T n f xs = some o:=⟨o,n,h⟩
  unfold ev
  rw [dif_pos hh]
  obtain ⟨m,hm⟩:=Classical.choose_spec hh
  have h1:=wO (Nat.le_max_left m n) f xs _ hm
  have h2:=wO (Nat.le_max_right m n) f xs _ h
  rw [h1] at h2
  exact h2
theorem wM {L : bD} {T : fO} {f : FuncId} {xs : List X} {o : Out} (h : ev L T f xs = some o) : ∃ n,exec L T n f xs = some o:=by
  unfold ev at h
  split at h
  · rename_i hh
    cases h
    exact Classical.choose_spec hh
  · cases h
theorem NB (L : bD) (T : fO) (n : Nat) : (exec L T n).le (ev L T):=fun _ _ _ h=>Bh h
theorem NA [Bs] {P : Program} {L : bD} {T : fO} (hL : L.Sound P) (hT : T.Ok P) : (ev L T).Sound P:=fun f xs o h=>by
  obtain ⟨n,hn⟩:=wM h
  exact FR hL hT n f xs o hn
section
variable {L : bD} {T : fO}
theorem FE {g : G} {s s' : ag} (h : eG (ev L T) (av T) g s = some s') : ∃ n,∀ m,n≤m→eG (exec L T m) (av T) g s = some s':=by
  rcases FD h with h | ⟨f,xs,r,h1,h2⟩
  · exact ⟨0,fun m _=>h _⟩
  · obtain ⟨n,hn⟩:=wM h1
    exact ⟨n,fun m hm=>h2 _ (wO hm f xs r hn)⟩
theorem FJ : ∀ {l : List G} {s s' : ag},gq (ev L T) (av T) l s = some s'→∃ n,∀ m,n≤m→gq (exec L T m) (av T) l s = some s'
  | [],s,s',h=>⟨0,fun m _=>h⟩
  | g :: l,s,s',h=>by
    simp only [gq] at h ⊢
    cases h1 : eG (ev L T) (av T) g s with
    | none=>rw [h1] at h; cases h
    | some s1 =>
      rw [h1] at h
      obtain ⟨n1,fH⟩:=FE h1
      obtain ⟨n2,hn2⟩:=FJ (l:=l) h
      exact ⟨max n1 n2,fun m hm=>by rw [fH m (by omega)]; exact hn2 m (by omega)⟩
theorem sF : ∀ {l : DT} {s s' : ag},eD (ev L T) (av T) l s = some s'→∃ n,∀ m,n≤m→eD (exec L T m) (av T) l s = some s'
  | .nil _,s,s',h=>⟨0,fun m _=>h⟩
  | .step _ g l,s,s',h=>by
    simp only [eD] at h ⊢
    cases h1 : eG (ev L T) (av T) g s with
    | none=>rw [h1] at h; cases h
    | some s1 =>
      rw [h1] at h
      obtain ⟨n1,fH⟩:=FE h1
      obtain ⟨n2,hn2⟩:=sF (l:=l) h
      exact ⟨max n1 n2,fun m hm=>by rw [fH m (by omega)]; exact hn2 m (by omega)⟩
  | .alt a b,s,s',h=>by
    simp only [eD] at h ⊢
    unfold same at h
    split at h
    · rename_i x y hx hy
      obtain ⟨n1,fH⟩:=sF hx
      obtain ⟨n2,hn2⟩:=sF hy
      exact ⟨max n1 n2,fun m hm=>by rw [fH m (by omega),hn2 m (by omega)]; exact h⟩
    · cases h
  | .kp _ t,s,s',h=>sF (l:=t) h
theorem HI {a : Option ag} {b : Nat→Option ag} (h : ∀ s,a = some s→∃ n,∀ m,n≤m→b m = some s) {o : Ex×ag} (ho : fk a = some o) : ∃ n,∀ m,n≤m→fk (b m) = some o:=by
  cases a with
  | none=>cases ho
  | some s =>
    obtain ⟨n,hn⟩:=h s rfl
    exact ⟨n,fun m hm=>by rw [hn m hm]; exact ho⟩
theorem Ny : ∀ {t : A} {s : ag} {o : Ex×ag},aj (ev L T) (av T) t s = some o→∃ n,∀ m,n≤m→eA (exec L T m) (av T) m t s = some o:=by
  intro t
  induction t with
  | skip=>intro s o h; exact ⟨0,fun m _=>h⟩
  | ret=>intro s o h; exact ⟨0,fun m _=>h⟩
  | exit id=>intro s o h; exact ⟨0,fun m _=>h⟩
  | ops l=>intro s o h; exact HI (fun s h=>FJ h) h
  | draw l=>intro s o h; exact HI (fun s h=>sF h) h
  | seq a b fj gC =>
    intro s o h
    simp only [aj] at h
    simp only [eA]
    cases hr : aj (ev L T) (av T) a s with
    | none=>rw [hr] at h; cases h
    | some r =>
      rw [hr] at h
      obtain ⟨n1,fH⟩:=fj hr
      obtain ⟨e,s1⟩:=r
      cases e with
      | normal =>
        obtain ⟨n2,hn2⟩:=gC (s:=s1) h
        exact ⟨max n1 n2,fun m hm=>by rw [fH m (by omega)]; exact hn2 m (by omega)⟩
      | exit i=>exact ⟨n1,fun m hm=>by rw [fH m hm]; exact h⟩
      | ret=>exact ⟨n1,fun m hm=>by rw [fH m hm]; exact h⟩
  | cond c a b fj gC =>
    intro s o h
    simp only [aj] at h
    simp only [eA]
    split at h
    · rename_i t ht
      try rw [ht]
      cases t with
      | true=>exact fj h
      | false=>exact gC h
    · cases h
  | block id b ih =>
    intro s o h
    simp only [aj] at h
    simp only [eA]
    cases hr : aj (ev L T) (av T) b s with
    | none=>rw [hr] at h; cases h
    | some r =>
      rw [hr] at h
      obtain ⟨n1,fH⟩:=ih hr
      exact ⟨n1,fun m hm=>by rw [fH m hm]; exact h⟩
  | pk ks b ih =>
    intro s o h
    simp only [aj] at h
    simp only [eA]
    cases hr : aj (ev L T) (av T) b s with
    | none=>rw [hr] at h; cases h
    | some r =>
      rw [hr] at h
      obtain ⟨n1,fH⟩:=ih hr
      exact ⟨n1,fun m hm=>by rw [fH m hm]; exact h⟩
  | loop b ih =>
    intro s o h
    simp only [aj] at h
    obtain ⟨n,hn⟩:=Dc h
    have go : ∀ (n : Nat) (s : ag),iter (aj (ev L T) (av T) b) n s = some o→∃ k,∀ m,k≤m→iter (eA (exec L T m) (av T) m b) n s = some o:=by
      intro n
      induction n with
      | zero=>intro s h; cases h
      | succ n ihn =>
        intro s h
        simp only [iter] at h ⊢
        cases hr : aj (ev L T) (av T) b s with
        | none=>rw [hr] at h; cases h
        | some r =>
          rw [hr] at h
          obtain ⟨n1,fH⟩:=ih hr
          obtain ⟨e,s1⟩:=r
          cases e with
          | normal =>
            obtain ⟨n2,hn2⟩:=ihn s1 h
            exact ⟨max n1 n2,fun m hm=>by rw [fH m (by omega)]; exact hn2 m (by omega)⟩
          | exit i=>exact ⟨n1,fun m hm=>by rw [fH m hm]; exact h⟩
          | ret=>exact ⟨n1,fun m hm=>by rw [fH m hm]; exact h⟩
    obtain ⟨k,hk⟩:=go n s hn
    refine ⟨max k n,fun m hm=>?_⟩
    simp only [eA]
    exact qF (fun _ _ h=>h) (by omega) (hk m (by omega))
noncomputable def wK (L : bD) (T : fO) (F : Fn) (xs : List X) : Option Out :=
  if xs.length = F.n then fin F (aj (ev L T) (av T) F.body (jt xs)) else none
theorem Nz {f : FuncId} {F : Fn} (hF : T f = some F) (xs : List X) : ev L T f xs = wK L T F xs:=by
  refine Dt (fun o h=>?_) fun o h=>?_
  · obtain ⟨n,hn⟩:=wM h
    cases n with
    | zero=>cases hn
    | succ n =>
      simp only [exec,hF] at hn
      unfold eF at hn
      unfold wK
      split at hn
      · rename_i hl
        rw [if_pos hl]
        cases hr : eA (exec L T n) (av T) n F.body (jt xs) with
        | none=>rw [hr] at hn; cases hn
        | some r=>rw [hr] at hn; rw [Nk (NB L T n) hr]; exact hn
      · cases hn
  · unfold wK at h
    split at h
    · rename_i hl
      cases hr : aj (ev L T) (av T) F.body (jt xs) with
      | none=>rw [hr] at h; cases h
      | some r =>
        rw [hr] at h
        obtain ⟨n,hn⟩:=Ny hr
        refine Bh (n:=n + 1) ?_
        simp only [exec,hF,eF,if_pos hl,hn n (Nat.le_refl n)]
        exact h
    · cases h
theorem mL {f : FuncId} (hF : T f = none) (xs : List X) : ev L T f xs = L f xs:=by
  refine Dt (fun o h=>?_) fun o h=>?_
  · obtain ⟨n,hn⟩:=wM h
    cases n with
    | zero=>cases hn
    | succ n=>simpa only [exec,hF] using hn
  · refine Bh (n:=1) ?_
    simpa only [exec,hF] using h
end
end M
set_option linter.unusedVariables false
set_option linter.unusedSimpArgs false
namespace M
open Go
section
variable {C : bD} {ok : FuncId→Bool} {T : fO}
@[simp] theorem ZT (s : ag) : aj C ok .skip s = some (.normal,s):=rfl
@[simp] theorem ZR (s : ag) : aj C ok .ret s = some (.ret,s):=rfl
@[simp] theorem ZN (i : Nat) (s : ag) : aj C ok (.exit i) s = some (.exit i,s):=rfl
@[simp] theorem ZP (l : List G) (s : ag) : aj C ok (.ops l) s = fk (gq C ok l s):=rfl
@[simp] theorem ZM (t : DT) (s : ag) : aj C ok (.draw t) s = fk (eD C ok t s):=rfl
@[simp] theorem ZS (a b : A) (s : ag) : aj C ok (.seq a b) s = dD (aj C ok b) (aj C ok a s):=rfl
@[simp] theorem ZK (i : Nat) (b : A) (s : ag) : aj C ok (.block i b) s = ij i (aj C ok b s):=rfl
@[simp] theorem ZO (b : A) (s : ag) : aj C ok (.loop b) s = aJ (aj C ok b) s:=rfl
@[simp] theorem ZQ (ks : List Nat) (b : A) (s : ag) : aj C ok (.pk ks b) s = iK ks (aj C ok b s):=rfl
noncomputable def Ft (C : bD) (ok : FuncId→Bool) (a b : A) (s : ag) : X→bN
  | .bool t=>if t = true then aj C ok a s else aj C ok b s
  | _=>none
@[simp] theorem ZL (c : AV) (a b : A) (s : ag) : aj C ok (.cond c a b) s = Ft C ok a b s (ai s c):=by
  simp only [aj]; cases ai s c <;> rfl
@[simp] theorem Zd (a b : A) (s : ag) (t : Bool) : Ft C ok a b s (.bool t) = if t = true then aj C ok a s else aj C ok b s:=rfl
@[simp] theorem ZI (s : ag) : gq C ok [] s = some s:=rfl
@[simp] theorem ZH (g : G) (l : List G) (s : ag) : gq C ok (g :: l) s = (eG C ok g s).bind (gq C ok l):=rfl
@[simp] theorem ZD (ks : List Nat) (s : ag) : eD C ok (.nil ks) s = some (keep ks s):=rfl
@[simp] theorem ZE (i : Nat) (g : G) (t : DT) (s : ag) : eD C ok (.step i g t) s = (eG C ok g s).bind (eD C ok t):=rfl
@[simp] theorem ZB (a b : DT) (s : ag) : eD C ok (.alt a b) s = same (eD C ok a s) (eD C ok b s):=rfl
@[simp] theorem ZC (ks : List Nat) (t : DT) (s : ag) : eD C ok (.kp ks t) s = eD C ok t (keep ks s):=rfl
@[simp] theorem abi (s : ag) : same (some s) (some s) = some s:=by
  have : mI s s = true:=by
    induction s with
    | nil=>rfl
    | cons a l ih=>obtain ⟨k,x⟩:=a; simp [mI,X.FP,ih]
  simp [same,this]
@[simp] theorem Yp (c : Prop) [Decidable c] (a b : Option ag) (f : ag→Option ag) : (if c then a else b).bind f = if c then a.bind f else b.bind f:=by split <;> rfl
def w5 (C : bD) (ok : FuncId→Bool) (o : bE) (t : Nat) (b : Bool) (s : ag) : X→Option ag
  | .bool v=>if v = b then bQ C ok o ((t,.bool b) :: s) else some (dL o.dst (.ak []) ((t,.bool (!b)) :: s))
  | .ak []=>some (dL o.dst (.ak []) s)
  | _=>none
@[simp] theorem ZF (o : bE) (s : ag) : eG C ok ⟨none,o⟩ s = bQ C ok o s:=rfl
@[simp] theorem ZG (t : Nat) (b : Bool) (o : bE) (s : ag) : eG C ok ⟨some (t,b),o⟩ s = w5 C ok o t b s (get s t):=by
  simp only [eG]
  split <;> simp_all [w5]
@[simp] theorem Z6 (o : bE) (t : Nat) (b v : Bool) (s : ag) : w5 C ok o t b s (.bool v) = if v = b then bQ C ok o ((t,.bool b) :: s) else some (dL o.dst (.ak []) ((t,.bool (!b)) :: s)):=rfl
@[simp] theorem Z7 (o : bE) (t : Nat) (b : Bool) (s : ag) : w5 C ok o t b s (.ak []) = some (dL o.dst (.ak []) s):=rfl
@[simp] theorem aa1 (s : ag) : fk (some s) = some (.normal,s):=rfl
@[simp] theorem aa0 : fk none = none:=rfl
@[simp] theorem aaZ (c : Prop) [Decidable c] (a b : Option ag) : fk (if c then a else b) = if c then fk a else fk b:=by split <;> rfl
@[simp] theorem U9 (k : ag→bN) (s : ag) : dD k (some (.normal,s)) = k s:=rfl
@[simp] theorem abk (k : ag→bN) (i : Nat) (s : ag) : dD k (some (.exit i,s)) = some (.exit i,s):=rfl
@[simp] theorem abn (k : ag→bN) (s : ag) : dD k (some (.ret,s)) = some (.ret,s):=rfl
@[simp] theorem abm (k : ag→bN) : dD k none = none:=rfl
@[simp] theorem abl (k : ag→bN) (c : Prop) [Decidable c] (a b : bN) : dD k (if c then a else b) = if c then dD k a else dD k b:=by split <;> rfl
@[simp] theorem Yt (i : Nat) (s : ag) : ij i (some (.normal,s)) = some (.normal,s):=rfl
@[simp] theorem Yq (i j : Nat) (s : ag) : ij i (some (.exit j,s)) = if j = i then some (.normal,s) else some (.exit j,s):=rfl
@[simp] theorem Yu (i : Nat) (s : ag) : ij i (some (.ret,s)) = some (.ret,s):=rfl
@[simp] theorem Ys (i : Nat) : ij i none = none:=rfl
@[simp] theorem Yr (i : Nat) (c : Prop) [Decidable c] (a b : bN) : ij i (if c then a else b) = if c then ij i a else ij i b:=by split <;> rfl
@[simp] theorem abb (ks : List Nat) (s : ag) : iK ks (some (.normal,s)) = some (.normal,keep ks s):=rfl
@[simp] theorem aa7 (ks : List Nat) (i : Nat) (s : ag) : iK ks (some (.exit i,s)) = some (.exit i,s):=rfl
@[simp] theorem abd (ks : List Nat) (s : ag) : iK ks (some (.ret,s)) = some (.ret,s):=rfl
@[simp] theorem aa9 (ks : List Nat) : iK ks none = none:=rfl
@[simp] theorem aa8 (ks : List Nat) (c : Prop) [Decidable c] (a b : bN) : iK ks (if c then a else b) = if c then iK ks a else iK ks b:=by split <;> rfl
def n6 (rs : List RV) (n : Nat) : bN→Option Out
  | some (.exit _,_)=>none
  | some (_,s)=>if X.clean.bK (cK rs s).1 = true∧(cK rs s).1.any X.jd = false then some (oT (cK rs s).1,lW 0 n (cK rs s).2) else none
  | none=>none
def Bl (rs : List RV) (n : Nat) (s : ag) : Option Out:=if X.clean.bK (cK rs s).1 = true∧(cK rs s).1.any X.jd = false then some (oT (cK rs s).1,lW 0 n (cK rs s).2) else none
theorem ay {L : bD} {T : fO} {f : FuncId} {b : A} {rs : List RV} {n : Nat} (h : T f = some ⟨b,rs,n⟩) {xs : List X} (hl : xs.length = n) : ev L T f xs = n6 rs n (aj (ev L T) (av T) b (jt xs)):=by
  rw [Nz h]
  unfold wK
  rw [if_pos hl]
  rfl
@[simp] theorem Z5 (rs : List RV) (n : Nat) (s : ag) : n6 rs n (some (.ret,s)) = Bl rs n s:=rfl
@[simp] theorem Z4 (rs : List RV) (n : Nat) (s : ag) : n6 rs n (some (.normal,s)) = Bl rs n s:=rfl
@[simp] theorem Z3 (rs : List RV) (n : Nat) : n6 rs n none = none:=rfl
@[simp] theorem Z2 (rs : List RV) (n : Nat) (c : Prop) [Decidable c] (a b : bN) : n6 rs n (if c then a else b) = if c then n6 rs n a else n6 rs n b:=by split <;> rfl
@[simp] theorem abg (d : Option Nat) (s : ag) (r : X) (ps : List X) : lX d s (some (r,ps)) = some (dL d r s):=rfl
@[simp] theorem abf (d : Option Nat) (s : ag) : lX d s none = none:=rfl
@[simp] theorem abe (d : Option Nat) (s : ag) (c : Prop) [Decidable c] (a b : Option Out) : lX d s (if c then a else b) = if c then lX d s a else lX d s b:=by split <;> rfl
end
attribute [simp] Bl bQ jt vC vD cK lW post oT X.jd X.clean X.clean.bK X.clean.aS keep Ag wq mC pT
end M
set_option linter.unusedVariables false
set_option linter.unusedSimpArgs false
namespace M
open Go
def sA (z bytes : Nat) : A:=(.seq (.pk [0] (.ops [⟨none,.bO 2 .bH (.k (.row .own z []))⟩])) (.seq (.seq (.pk [0,4] (.ops [⟨none,.mv 3 (.t 0)⟩,⟨none,.nx 4 false (.t 3)⟩])) (.pk [0] (.cond (.t 4) (.seq (.pk [2,7] (.ops [⟨none,.bO 2 .bH (.k (.row .own z []))⟩])) .ret) .skip))) (.seq (.pk [2,7] (.ops [⟨none,.lit 5 .mv z []⟩,⟨none,.mv 6 (.t 0)⟩,⟨none,.app 7 .al z bytes (.t 5) (.t 6)⟩,⟨none,.bO 2 .bH (.t 7)⟩])) .ret)))
theorem Fo : ∀ {rows : List (List X)},en rows = true→X.clean.aS rows = true
  | [],_=>rfl
  | e :: l,h=>by
    simp only [en,Bool.and_eq_true,List.all_eq_true] at h
    have h1 : X.clean.bK e = true:=by
      have h2:=h.1
      clear h
      induction e with
      | nil=>rfl
      | cons x e ih =>
        have hx:=h2 x (List.mem_cons_self ..)
        have he:=ih fun y hy=>h2 y (List.mem_cons_of_mem _ hy)
        cases x <;> simp_all [scalar,X.clean.bK,X.clean]
    simp only [X.clean.aS,h1,Fo h.2,Bool.and_self]
theorem MK [Bs] {P : Program} {f : FuncId} {z bytes : Nat} (hT : Told P f (sA z bytes) [.t 2] 1) {rows : List (List X)} (h1 : rows.length * bytes≤140737488355328) (h2 : en rows = true) (h4 : ji rows = true∨rows = []) :
    AC P f [.row .af z rows] fun r ps=>r = .row .own z rows∧ps = [.dead]:=by
  refine hT.ac rfl ?_
  have h3:=D6 h2
  have h5:=Fo h2
  simp [sA,cV,gM,kT,aH,base,Ends,h1,h3,h5]
  intro h6
  rcases h4 with h4 | h4
  · rw [h4] at h6; cases h6
  · subst h4; simp
def jx (f0 z bytes : Nat) : bD:=fun f xs=>if f = f0 then (match xs with
  | [.row .af z' rows]=>if z' = z∧rows.length * bytes≤140737488355328∧en rows = true∧(ji rows = true∨rows = []) then some (.row .own z rows,[.dead]) else none
  | _=>none) else none
theorem Fp [Bs] {P : Program} {f0 z bytes : Nat} (hT : Told P f0 (sA z bytes) [.t 2] 1) : (jx f0 z bytes).Sound P:=fun f xs o h=>by
  unfold jx at h
  split at h
  · rename_i hf
    subst hf
    split at h
    · split at h
      · rename_i hc
        obtain ⟨rfl,c1,c2,c3⟩:=hc
        cases h
        exact MK hT c1 c2 c3
      · cases h
    · cases h
  · cases h
def fm (L L' : bD) : bD:=fun f xs=>match L f xs with
  | some o=>some o
  | none=>L' f xs
theorem oP [Bs] {P : Program} {L L' : bD} (h : L.Sound P) (h' : L'.Sound P) : (fm L L').Sound P:=fun f xs o e=>by
  unfold fm at e
  split at e
  · rename_i o' e'
    cases e
    exact h f xs _ e'
  · exact h' f xs _ e
end M
set_option linter.unusedVariables false
set_option linter.unusedSimpArgs false
namespace M
open Go
def UY : X→Bool
  | .str s=>decide (s.size≤9223372036854775807)
  | x=>scalar x
def oQ (f0 : FuncId) (g : List X→Option X) : bD:=fun f xs=>if f = f0 then (match g xs with
  | some r=>if xs.all scalar = true∧UY r = true then some (r,xs.map fun _=>.dead) else none
  | none=>none) else none
end M
set_option linter.unusedVariables false
set_option linter.unusedSimpArgs false
namespace M
open Go Go.Sort
def mg [B : Bs] (w : World) : Prop:=∀ b,b < B.W0.heap.size→w.heap[b]? = B.W0.heap[b]?
theorem TabIs.same [B : Bs] {P : Program} {w : World} {n : String} {k : IntKind} {zs : List Int} (h : Lib.TabIs P B.W0 n k zs) (hw : mg w) : Lib.TabIs P w n k zs:=by
  unfold Lib.TabIs World.var? at h ⊢
  cases hg : P.globalNamed n with
  | none=>rw [hg] at h; cases h
  | some g =>
    rw [hg] at h
    simp only [Option.bind_some] at h ⊢
    have hlt : g < B.W0.heap.size:=by
      rcases Nat.lt_or_ge g B.W0.heap.size with h' | h'
      · exact h'
      · rw [Array.getElem?_eq_none h'] at h; cases h
    rw [hw g hlt]
    exact h
theorem U4 {P : Program} {W : World} {name : String} {k : IntKind} {zs : List Int} {g : Nat} {t e : TypeId} {n : Nat}
    (hg : P.globalNamed name = some g) (hty : (P.globals[g]?).map (·.type) = some t) (ht : P.underlying t = some (.array n e)) (he : P.underlying e = some (.int k)) (hce : P.cellsOf e = 1) (hct : P.cellsOf t = n) :
    ∀ {l : List (String×DataW Unit)} {ps : List MemPlace},DataW.LaidVars P W l ps→(name,Lib.tabData k zs)∈l→Lib.TabIs P W name k zs
  | [],_,_,h=>by cases h
  | (nm,d) :: l,ps,h,hm=>by
    obtain ⟨g',t',cs,fuel,p,q,hg',ht',hvar,hd,hr,_⟩:=h
    rcases List.mem_cons.1 hm with hm | hm
    · obtain ⟨rfl,rfl⟩:=Prod.mk.inj hm
      obtain rfl:=Option.some.inj (hg.symm.trans hg')
      obtain rfl:=Option.some.inj (hty.symm.trans ht')
      unfold Lib.TabIs
      rw [hvar,← Lib.cells_of_tab ht he hce hct hd]
    · exact U4 hg hty ht he hce hct hr hm
end M
set_option linter.unusedVariables false
set_option linter.unusedSimpArgs false
namespace M
open Go
def lv : Ex×ag→bN
  | (.normal,_)=>none
  | (.ret,s)=>some (.ret,s)
  | (.exit i,s)=>some (.exit i,s)
def jj {β γ : Type} (go : β→γ→γ ⊕ (Ex×ag)) : List β→γ→γ ⊕ (Ex×ag)
  | [],g=>.inl g
  | b :: l,g=>match go b g with
    | .inl g'=>jj go l g'
    | .inr o=>.inr o
theorem yY {xt : Nat} {β γ : Type} {f : ag→bN} (l : List β) (st : Nat→γ→ag) (go : β→γ→γ ⊕ (Ex×ag)) (E : γ→ag) (Inv : Nat→γ→Prop) (g : γ) (h0 : Inv 0 g)
    (h : ∀ i b g,l[i]? = some b→i < l.length→Inv i g→f (st i g) = (match go b g with | .inl g'=>some (.normal,st (i + 1) g') | .inr o=>lv o))
    (hI : ∀ i b g g',l[i]? = some b→Inv i g→go b g = .inl g'→Inv (i + 1) g')
    (hend : ∀ g,Inv l.length g→f (st l.length g) = some (.exit xt,E g)) :
    aJ f (st 0 g) = match jj go l g with | .inl g'=>some (.exit xt,E g') | .inr o=>lv o:=by
  suffices H : ∀ (r : List β) (i : Nat) (g : γ),Inv i g→l.drop i = r→i≤l.length→aJ f (st i g) = match jj go r g with | .inl g'=>some (.exit xt,E g') | .inr o=>lv o from H l 0 g h0 rfl (Nat.zero_le _)
  intro r
  induction r with
  | nil =>
    intro i g hi hr hl
    have : i = l.length:=by
      have:=congrArg List.length hr
      simp at this
      omega
    subst this
    rw [gE,hend g hi]
    rfl
  | cons b r ih =>
    intro i g hi hr hl
    have hlt : i < l.length:=by
      rcases Nat.lt_or_ge i l.length with h | h
      · exact h
      · rw [List.drop_eq_nil_of_le h] at hr; cases hr
    have hb : l[i]? = some b:=by
      have:=List.drop_eq_getElem_cons hlt
      rw [hr] at this
      rw [List.getElem?_eq_getElem hlt]
      cases this; rfl
    have hr' : l.drop (i + 1) = r:=by
      have:=List.drop_eq_getElem_cons hlt
      rw [hr] at this
      cases this; rfl
    rw [gE,h i b g hb hlt hi]
    unfold jj
    cases hg : go b g with
    | inl g'=>exact ih (i + 1) g' (hI i b g g' hb hi hg) hr' hlt
    | inr o =>
      obtain ⟨e,s⟩:=o
      cases e <;> simp [dD,lv]
def aO {α : Type} (p : α→Bool) (l : List α) : Bool:=l.all p
theorem kS {α : Type} {p : α→Bool} {l : List α} : aO p l = true↔∀ x∈l,p x = true:=List.all_eq_true
theorem dh {xt : Nat} {β : Type} {f : ag→bN} (l : List β) (st : Nat→ag) (p : β→Bool) (R E : ag)
    (h : ∀ i b,l[i]? = some b→i < l.length→f (st i) = if p b = true then some (.normal,st (i + 1)) else some (.ret,R))
    (hend : f (st l.length) = some (.exit xt,E)) :
    aJ f (st 0) = if aO p l = true then some (.exit xt,E) else some (.ret,R):=by
  show _ = if l.all p = true then _ else _
  have H:=yY (f:=f) l (fun i (_ : Unit)=>st i) (fun b _=>if p b = true then .inl () else .inr (.ret,R)) (fun _=>E) (fun _ _=>True) () trivial
    (fun i b g hb hl _=>by rw [h i b hb hl]; by_cases hp : p b = true <;> simp [hp,lv]) (fun _ _ _ _ _ _ _=>trivial) fun _ _=>hend
  refine H.trans ?_
  have : ∀ r : List β,jj (fun b (_ : Unit)=>if p b = true then .inl () else .inr (Ex.ret,R)) r () = if r.all p = true then .inl () else .inr (.ret,R):=by
    intro r
    induction r with
    | nil=>rfl
    | cons b r ih =>
      simp only [jj]
      by_cases hp : p b = true
      · simp [hp,ih]
      · simp [hp]
  rw [this]
  by_cases hp : l.all p = true <;> simp [hp,lv]
theorem Dd {xt : Nat} {β γ : Type} {f : ag→bN} (l : List β) (st : Nat→γ→ag) (go : γ→β→γ) (E : γ→ag) (Inv : Nat→γ→Prop) (g : γ) (h0 : Inv 0 g)
    (h : ∀ i b g,l[i]? = some b→i < l.length→Inv i g→f (st i g) = some (.normal,st (i + 1) (go g b)))
    (hI : ∀ i b g,l[i]? = some b→Inv i g→Inv (i + 1) (go g b))
    (hend : ∀ g,Inv l.length g→f (st l.length g) = some (.exit xt,E g)) :
    aJ f (st 0 g) = some (.exit xt,E (l.foldl go g)):=by
  refine (yY (f:=f) l st (fun b g=>.inl (go g b)) E Inv g h0 h (fun i b g g' hb hi e=>by cases e; exact hI i b g hb hi) hend).trans ?_
  have : ∀ (r : List β) (g : γ),jj (fun b g=>.inl (go g b)) r g = (.inl (r.foldl go g) : γ ⊕ (Ex×ag)):=by
    intro r
    induction r with
    | nil=>intro g; rfl
    | cons b r ih=>intro g; simp only [jj,List.foldl_cons]; exact ih _
  rw [this]
theorem gY {xt : Nat} {β : Type} {f : ag→bN} (l : List β) (st : Nat→ag) (E : ag)
    (h : ∀ i b,l[i]? = some b→i < l.length→f (st i) = some (.normal,st (i + 1)))
    (hend : f (st l.length) = some (.exit xt,E)) : aJ f (st 0) = some (.exit xt,E) :=
  Dd l (fun i (_ : Unit)=>st i) (fun _ _=>()) (fun _=>E) (fun _ _=>True) () trivial (fun i b _ hb hl _=>h i b hb hl) (fun _ _ _ _ _=>trivial) fun _ _=>hend
theorem bl {n : Int} (h1 : -9223372036854775808≤n) (h2 : n≤9223372036854775807) : IntKind.i64.wrap n = n:=by
  simp only [IntKind.wrap,IntKind.signed,IntKind.bits,Bool.true_and,decide_eq_true_eq]
  split <;> rename_i h <;> simp at h <;> omega
theorem aY (n : Nat) (h : n < 9223372036854775807) : IntKind.i64.wrap (↑n + 1) = ↑n + 1:=bl (by omega) (by omega)
attribute [simp] base zW eK look D7 vB yX kV lS kE eV dB
abbrev ah:=List UInt8
@[simp] theorem abj (s : ah) : ByteArray.size ⟨s.toArray⟩ = s.length:=by simp [ByteArray.size]
@[simp] theorem str_inj (s t : ah) : ((⟨s.toArray⟩ : ByteArray) = ⟨t.toArray⟩)↔s = t:=by
  constructor
  · intro h
    injection h with h
    simpa using congrArg Array.toList h
  · rintro rfl; rfl
theorem Eb (s t : ah) : (⟨s.toArray⟩ : ByteArray) ++ ⟨t.toArray⟩ = ⟨(s ++ t).toArray⟩:=by
  apply ByteArray.ext
  rw [ByteArray.data_append]
  simp
@[simp] def eS (s : ah) : List X:=[.str ⟨s.toArray⟩]
structure Wr where
  at_ : Int
  text : ah
  deriving DecidableEq
structure ew where
  cells : List ah
  pending : List Wr
  deriving DecidableEq
@[simp] def eW (w : Wr) : List X:=[.int .i64 w.at_,.str ⟨w.text.toArray⟩]
@[simp] def fR (m : Md) (d : ew) : List X:=[.row m 1 (d.cells.map eS),.row m 2 (d.pending.map eW)]
@[simp] theorem aaT (m : Md) (l : List ah) : X.bC m (l.map eS) = l.map eS:=by induction l <;> simp_all [X.bC,X.cO,X.md]
@[simp] theorem aaX (m : Md) (l : List Wr) : X.bC m (l.map eW) = l.map eW:=by induction l <;> simp_all [X.bC,X.cO,X.md]
@[simp] theorem YY (l : List ah) : X.clean.aS (l.map eS) = true:=by induction l <;> simp_all [X.clean.aS,X.clean.bK,X.clean]
@[simp] theorem Y2 (l : List Wr) : X.clean.aS (l.map eW) = true:=by induction l <;> simp_all [X.clean.aS,X.clean.bK,X.clean]
def eu {α : Type} (f : α→Int→Int) : List α→Int→Int
  | [],n=>n
  | a :: l,n=>if f a n < 0 then -1 else eu f l (f a n)
theorem uG {xt : Nat} {β : Type} {f : ag→bN} (l : List β) (st : Nat→Int→ag) (z : β→Int→Int) (R : ag) (E : Int→ag) (n : Int) (hn : 0≤n) (hm : n≤9223372036854775807)
    (hz : ∀ a n,z a n≤n∨z a n < 0)
    (h : ∀ i b n,l[i]? = some b→i < l.length→0≤n→n≤9223372036854775807→f (st i n) = if z b n < 0 then some (.ret,R) else some (.normal,st (i + 1) (z b n)))
    (hend : ∀ n,f (st l.length n) = some (.exit xt,E n)) :
    aJ f (st 0 n) = if eu z l n < 0 then some (.ret,R) else some (.exit xt,E (eu z l n)):=by
  have H:=yY (f:=f) l st (fun b n=>if z b n < 0 then .inr (.ret,R) else .inl (z b n)) E (fun _ n=>0≤n∧n≤9223372036854775807) n ⟨hn,hm⟩
    (fun i b n hb hl hi=>by rw [h i b n hb hl hi.1 hi.2]; by_cases hp : z b n < 0 <;> simp [hp,lv]) (fun i b g g' hb hi hg=>by
      by_cases hp : z b g < 0
      · simp [hp] at hg
      · simp [hp] at hg
        have:=hz b g
        omega) fun g _=>hend g
  refine H.trans ?_
  have : ∀ (r : List β) (n : Int),0≤n→jj (fun b n=>if z b n < 0 then .inr (Ex.ret,R) else .inl (z b n)) r n = if eu z r n < 0 then .inr (.ret,R) else .inl (eu z r n):=by
    intro r
    induction r with
    | nil=>intro n hn; rw [if_neg (by simp [eu]; omega)]; rfl
    | cons b r ih =>
      intro n hn
      simp only [jj,eu]
      by_cases hp : z b n < 0
      · simp [hp]
      · simp only [hp,if_false]
        exact ih _ (by omega)
  rw [this l n hn]
  by_cases hp : eu z l n < 0 <;> simp [hp,lv]
theorem SW {α β : Type} (l : List α) (e : α→β) (z : β) (g : β→β) {i : Nat} (hi : i < l.length) (hg : g z = e l[i]) :
    ((l.take i).map e ++ List.replicate (l.length - i) z).modify i g = (l.take (i + 1)).map e ++ List.replicate (l.length - (i + 1)) z:=by
  apply List.ext_getElem?
  intro j
  rw [List.getElem?_modify]
  rcases Nat.lt_trichotomy j i with h | h | h
  · rw [List.getElem?_append_left (by simp; omega),List.getElem?_append_left (by simp; omega)]
    simp only [List.getElem?_map,List.getElem?_take,if_pos h,if_pos (Nat.lt_succ_of_lt h),if_neg (Nat.ne_of_gt h)]
    cases l[j]? <;> rfl
  · subst h
    rw [List.getElem?_append_right (by simp; omega),List.getElem?_append_left (by simp; omega)]
    have : j - ((l.take j).map e).length = 0:=by simp; omega
    rw [this,List.getElem?_replicate_of_lt (by omega)]
    simp only [List.getElem?_map,List.getElem?_take,if_pos (Nat.lt_succ_self j),List.getElem?_eq_getElem hi,if_true,Option.map_some,← hg]
    rfl
  · rw [List.getElem?_append_right (by simp; omega),List.getElem?_append_right (by simp; omega)]
    have h1 : j - ((l.take i).map e).length = j - i:=by simp; omega
    have h2 : j - ((l.take (i + 1)).map e).length = j - (i + 1):=by simp; omega
    rw [h1,h2,List.getElem?_replicate,List.getElem?_replicate]
    by_cases h3 : j < l.length
    · rw [if_pos (by omega),if_pos (by omega)]
      simp only [Nat.ne_of_lt h,if_false]
      rfl
    · rw [if_neg (by omega),if_neg (by omega)]
      rfl
def dH (rows : List (List X)) (i : Nat) (z : List X) : List (List X):=rows.take i ++ List.replicate (rows.length - i) z
@[simp] theorem Z0 (rows : List (List X)) (i : Nat) (z : List X) : (dH rows i z).length = rows.length:=by simp [dH]; omega
@[simp] theorem NL (rows : List (List X)) (i : Nat) (z : List X) (h : i < rows.length) : (dH rows i z)[i]? = some z:=by
  unfold dH
  rw [List.getElem?_append_right (by simp; omega),List.getElem?_replicate_of_lt (by simp; omega)]
@[simp] theorem ZZ (rows : List (List X)) (i : Nat) (z : List X) (h : i < (dH rows i z).length) : (dH rows i z)[i] = z:=by
  have h' : i < rows.length:=by simpa using h
  have:=NL rows i z h'
  rw [List.getElem?_eq_getElem h] at this
  exact Option.some.inj this
@[simp] theorem Z1 (rows : List (List X)) (z : List X) : dH rows 0 z = List.replicate rows.length z:=by simp [dH]
@[simp] theorem ZY (rows : List (List X)) (i : Nat) (z : List X) (h : i = rows.length) : dH rows i z = rows:=by subst h; simp [dH]
@[simp] theorem ke (rows : List (List X)) (i : Nat) (z : List X) (g : List X→List X) (h : i < rows.length) (hg : g z = rows[i]) : (dH rows i z).modify i g = dH rows (i + 1) z:=by
  have:=SW rows id z g h (by simpa using hg)
  simpa [dH] using this
theorem kA {α : Type} (l : List α) (i : Nat) (f g : α→α) : (l.modify i f).modify i g = l.modify i fun x=>g (f x):=by
  apply List.ext_getElem?
  intro j
  simp only [List.getElem?_modify]
  by_cases h : i = j
  · simp only [h,if_true]; cases l[j]? <;> rfl
  · simp only [h,if_false]; cases l[j]? <;> rfl
theorem pI {α β : Type} : ∀ {a : List α} {b : List β},a.length = b.length→∃ ps : List (α×β),a = ps.map Prod.fst∧b = ps.map Prod.snd
  | [],[],_=>⟨[],rfl,rfl⟩
  | x :: a,y :: b,h=>by
    obtain ⟨ps,h1,h2⟩:=pI (a:=a) (b:=b) (by simpa using h)
    exact ⟨(x,y) :: ps,by simp [← h1],by simp [← h2]⟩
  | [],_ :: _,h=>by cases h
  | _ :: _,[],h=>by cases h
def cZ {α : Type} [DecidableEq α] (x : α×α) : Bool:=decide (x.1 = x.2)
theorem nR {α : Type} [DecidableEq α] : ∀ ps : List (α×α),aO cZ ps = decide (ps.map Prod.fst = ps.map Prod.snd)
  | []=>rfl
  | x :: ps=>by
    have:=nR ps
    unfold aO at this ⊢
    simp only [List.all_cons,this,cZ,List.map_cons,List.cons.injEq]
    exact (Bool.decide_and ..).symm
theorem SC {xt : Nat} {β : Type} {f : ag→bN} (l : List β) (st : Int→ag) (p : β→Bool) (R : β→ag) (E : ag)
    (h : ∀ (i : Nat) b,l[i]? = some b→i < l.length→f (st i) = if p b = true then some (.ret,R b) else some (.normal,st (i - 1)))
    (hend : f (st (-1)) = some (.exit xt,E)) :
    aJ f (st (l.length - 1)) = (l.reverse.find? p).elim (some (.exit xt,E)) (fun b=>some (.ret,R b)):=by
  suffices H : ∀ k,k≤l.length→aJ f (st ((k : Int) - 1)) = ((l.take k).reverse.find? p).elim (some (.exit xt,E)) (fun b=>some (.ret,R b)) by
    have:=H l.length (Nat.le_refl _)
    rwa [List.take_length] at this
  intro k
  induction k with
  | zero=>intro _; rw [gE]; simp [hend]
  | succ k ih =>
    intro hk
    have hb : l[k]? = some l[k]:=List.getElem?_eq_getElem hk
    have e : ((k + 1 : Nat) : Int) - 1 = (k : Int):=by omega
    rw [e,gE,h k _ hb hk,List.take_add_one,hb]
    simp only [Option.toList_some,List.reverse_append,List.reverse_cons,List.reverse_nil,List.nil_append,List.singleton_append,List.find?_cons]
    by_cases hp : p l[k] = true
    · simp [hp]
    · simp only [hp,Bool.false_eq_true,if_false,U9]
      exact ih (by omega)
def dG (new old : List (List X)) (i : Nat) : List (List X):=new.take i ++ old.drop i
@[simp] theorem FX (new old : List (List X)) (i : Nat) (h : new.length = old.length) : (dG new old i).length = old.length:=by simp [dG]; omega
@[simp] theorem NK (new old : List (List X)) (i : Nat) (h : new.length = old.length) (hi : i < old.length) : (dG new old i)[i]? = old[i]?:=by
  unfold dG
  rw [List.getElem?_append_right (by simp; omega),List.getElem?_drop]
  congr 1
  simp; omega
@[simp] theorem ZW (new old : List (List X)) (i : Nat) (hl : i < (dG new old i).length) (h : new.length = old.length) : (dG new old i)[i] = old[i]'(by rw [FX _ _ _ h] at hl; exact hl):=by
  have hi : i < old.length:=by rw [FX _ _ _ h] at hl; exact hl
  have:=NK new old i h hi
  rw [List.getElem?_eq_getElem hl,List.getElem?_eq_getElem hi] at this
  exact Option.some.inj this
@[simp] theorem ZX (new old : List (List X)) : dG new old 0 = old:=by simp [dG]
@[simp] theorem ZV (new old : List (List X)) (i : Nat) (h : new.length = old.length) (hi : i = old.length) : dG new old i = new:=by subst hi; rw [← h]; simp [dG]; omega
theorem sN (new old : List (List X)) (i : Nat) (g : List X→List X) (h : new.length = old.length) (hi : i < old.length) (hg : g (old[i]) = new[i]) : (dG new old i).modify i g = dG new old (i + 1):=by
  apply List.ext_getElem?
  intro j
  unfold dG
  rw [List.getElem?_modify]
  rcases Nat.lt_trichotomy j i with hj | hj | hj
  · rw [List.getElem?_append_left (by simp; omega),List.getElem?_append_left (by simp; omega)]
    simp only [List.getElem?_take,if_pos hj,if_pos (Nat.lt_succ_of_lt hj),if_neg (Nat.ne_of_gt hj)]
    cases new[j]? <;> rfl
  · subst hj
    rw [List.getElem?_append_right (by simp; omega),List.getElem?_append_left (by simp; omega)]
    have : j - (new.take j).length = 0:=by simp; omega
    rw [this,List.getElem?_drop,Nat.add_zero,List.getElem?_take,if_pos (Nat.lt_succ_self j),List.getElem?_eq_getElem hi,List.getElem?_eq_getElem (by omega)]
    simp only [if_true,← hg]
    rfl
  · rw [List.getElem?_append_right (by simp; omega),List.getElem?_append_right (by simp; omega),List.getElem?_drop,List.getElem?_drop]
    have h1 : i + (j - (new.take i).length) = j:=by simp; omega
    have h2 : i + 1 + (j - (new.take (i + 1)).length) = j:=by simp; omega
    rw [h1,h2]
    simp only [Nat.ne_of_lt hj,if_false]
    cases old[j]? <;> rfl
def je (n : Nat) (out : ah) : ah:=if h : n = 0 then out else je (n / 10) (UInt8.ofNat (48 + n % 10) :: out)
termination_by n
decreasing_by omega
def oF (k : Int) : ah:=if k≤0 then [109,48] else 109 :: je k.toNat []
def uI (n : Nat) (k : Int) : List ah:=(List.range n).map fun (i : Nat)=>oF (k + i)
def uJ (n : Nat) (k : Int) : List Wr:=(List.range n).map fun (i : Nat)=>⟨k + 2 * i,oF (k + 2 * i + 1)⟩
@[simp] theorem aaD (n : Nat) (k : Int) : (uI n k).length = n:=by simp [uI]
@[simp] theorem aaF (n : Nat) (k : Int) : (uJ n k).length = n:=by simp [uJ]
@[simp] theorem aaC (n : Nat) (k : Int) (i : Nat) (h : i < (uI n k).length) : (uI n k)[i] = oF (k + i):=by simp [uI]
@[simp] theorem aaE (n : Nat) (k : Int) (i : Nat) (h : i < (uJ n k).length) : (uJ n k)[i] = ⟨k + 2 * i,oF (k + 2 * i + 1)⟩:=by simp [uJ]
def foldI {β γ : Type} (go : Nat→γ→β→γ) : Nat→List β→γ→γ
  | _,[],g=>g
  | i,b :: l,g=>foldI go (i + 1) l (go i g b)
theorem HA {xt : Nat} {β γ : Type} {f : ag→bN} (l : List β) (st : Nat→γ→ag) (go : Nat→γ→β→γ) (E : γ→ag) (Inv : Nat→γ→Prop) (g : γ) (h0 : Inv 0 g)
    (h : ∀ i b g,l[i]? = some b→i < l.length→Inv i g→f (st i g) = some (.normal,st (i + 1) (go i g b)))
    (hI : ∀ i b g,l[i]? = some b→Inv i g→Inv (i + 1) (go i g b))
    (hend : ∀ g,Inv l.length g→f (st l.length g) = some (.exit xt,E g)) :
    aJ f (st 0 g) = some (.exit xt,E (foldI go 0 l g)):=by
  suffices H : ∀ (r : List β) (i : Nat) (g : γ),Inv i g→l.drop i = r→i≤l.length→aJ f (st i g) = some (.exit xt,E (foldI go i r g)) from H l 0 g h0 rfl (Nat.zero_le _)
  intro r
  induction r with
  | nil =>
    intro i g hi hr hl
    have : i = l.length:=by
      have:=congrArg List.length hr
      simp at this
      omega
    subst this
    rw [gE,hend g hi]
    rfl
  | cons b r ih =>
    intro i g hi hr hl
    have hlt : i < l.length:=by
      rcases Nat.lt_or_ge i l.length with h | h
      · exact h
      · rw [List.drop_eq_nil_of_le h] at hr; cases hr
    have hd:=List.drop_eq_getElem_cons hlt
    rw [hr] at hd
    have hb : l[i]? = some b:=by
      rw [List.getElem?_eq_getElem hlt]
      cases hd; rfl
    have hr' : l.drop (i + 1) = r:=by cases hd; rfl
    rw [gE,h i b g hb hlt hi]
    exact ih (i + 1) _ (hI i b g hb hi) hr' hlt
@[simp] theorem aaY (cs : List ah) (n : Nat) (t : ah) : (cs.map eS).modify n (fun x=>x.set 0 (X.str ⟨t.toArray⟩)) = (cs.set n t).map eS:=by
  apply List.ext_getElem?
  intro j
  rw [List.getElem?_modify,List.getElem?_map,List.getElem?_map,List.getElem?_set]
  by_cases h : n = j
  · subst h
    simp only [if_true]
    by_cases h2 : n < cs.length
    · simp [h2]
    · simp [h2,List.getElem?_eq_none (Nat.le_of_not_lt h2)]
  · simp only [h,if_false]
    cases cs[j]? <;> rfl
@[simp] def eB (b : Bool) : List X:=[.bool b]
@[simp] theorem aaH (m : Md) (l : List Bool) : X.bC m (l.map eB) = l.map eB:=by induction l <;> simp_all [X.bC,X.cO,X.md]
@[simp] theorem YM (l : List Bool) : X.clean.aS (l.map eB) = true:=by induction l <;> simp_all [X.clean.aS,X.clean.bK,X.clean]
theorem Io (l : List ah) : en (l.map eS) = true:=by induction l <;> simp_all [en,scalar]
theorem UH (l : List Wr) : en (l.map eW) = true:=by induction l <;> simp_all [en,scalar]
attribute [simp] Io UH
@[simp] theorem YL (a b : List (List X)) : X.clean.aS (a ++ b) = (X.clean.aS a && X.clean.aS b):=by
  induction a with
  | nil=>simp [X.clean.aS]
  | cons e a ih=>simp [X.clean.aS,ih,Bool.and_assoc]
@[simp] theorem aaG (m : Md) (a b : List (List X)) : X.bC m (a ++ b) = X.bC m a ++ X.bC m b:=by
  induction a with
  | nil=>simp [X.bC]
  | cons e a ih=>simp [X.bC,ih]
structure kP where
  code : List UInt8
  i : Nat
  h : Int
  hi : i≤code.length
  hl : code.length≤9223372036854775807
@[simp] def eU (b : UInt8) : List X:=[.int .u8 (b.toNat : Int)]
@[simp] theorem aaW (m : Md) (l : List UInt8) : X.bC m (l.map eU) = l.map eU:=by induction l <;> simp_all [X.bC,X.cO,X.md]
@[simp] theorem Y1 (l : List UInt8) : X.clean.aS (l.map eU) = true:=by induction l <;> simp_all [X.clean.aS,X.clean.bK,X.clean]
def gO (c : kP) : List X:=[.row .sl 1 (c.code.map eU),.int .i64 c.i,.int .i64 c.h]
@[simp] theorem Zy (c : kP) : (gO c).length = 3:=rfl
@[simp] theorem ZA (c : kP) : (gO c).take 3 = gO c:=rfl
@[simp] theorem Zv (c : kP) : (gO c).drop 3 = []:=rfl
@[simp] theorem Zz (ks : List Nat) (c : kP) : X.lU ks (gO c) = gO c:=rfl
@[simp] theorem Zw (r : Nat) (p : Path) (c : kP) : X.eJ r p (gO c) = gO c:=rfl
@[simp] theorem Zx (r : Nat) (p : Path) (c : kP) : X.lK r p (gO c) = gO c:=rfl
@[simp] theorem Zu (c : kP) : X.clean.bK (gO c) = true:=by simp [gO,X.clean.bK,X.clean]
@[simp] theorem Zt (c : kP) : X.bare.fQ (gO c) = true:=by simp [gO,X.bare.fQ,X.bare]
end M
set_option linter.unusedVariables false
set_option linter.unusedSimpArgs false
namespace M
open Go Go.RowKit
inductive Ty where
  | int (k : IntKind)
  | bool
  | str
  | row (ts : List Ty)
inductive fB : Ty→X→Prop
  | int {k n} : (Lit.int k n).wf = true→fB (.int k) (.int k n)
  | bool {b} : fB .bool (.bool b)
  | str {s : ByteArray} : s.size≤maxLen→fB .str (.str s)
  | row {ts xs} : xs.length≤maxLen→(∀ r : List X,r∈xs→r.length = ts.length)→(∀ (r : List X),r∈xs→∀ (j : Nat) ty x,ts[j]? = some ty→r[j]? = some x→fB ty x)→fB (.row ts) (.row .sl ts.length xs)
structure vX (w : World) (ty : Ty) (c : C) : Prop where
  cell : c.cell
  bU : c.bU
  fits : c.fits .sl
  ok : c.ok w (Zf (fun b _=>b < w.heap.size) fun _ _=>False)
  fp : ∀ b k,¬ c.fp b k
  sB : fB ty c.er
def iy (w : World) : List Ty→List Value→List C→Prop
  | [],[],[]=>True
  | ty :: ts,v :: vs,c :: cs=>c.val = v∧vX w ty c∧iy w ts vs cs
  | _,_,_=>False
theorem Gm {w : World} : ∀ {ts : List Ty} {vs : List Value} {cs : List C} {ts' : List Ty} {vs' : List Value} {cs' : List C},iy w ts vs cs→iy w ts' vs' cs'→iy w (ts ++ ts') (vs ++ vs') (cs ++ cs')
  | [],[],[],_,_,_,_,h=>h
  | _ :: _,_ :: _,_ :: _,_,_,_,⟨h1,h2,h3⟩,h=>⟨h1,h2,Gm h3 h⟩
theorem Gn {w : World} : ∀ {ts : List Ty} {vs : List Value} {cs : List C},iy w ts vs cs→vs.length = ts.length∧cs.length = ts.length∧vs = cs.map C.val
  | [],[],[],_=>⟨rfl,rfl,rfl⟩
  | _ :: _,_ :: _,_ :: _,⟨h1,h2,h3⟩=>by
    obtain ⟨e1,e2,e3⟩:=Gn h3
    exact ⟨by simp [e1],by simp [e2],by simp [h1,← e3]⟩
theorem BA {w : World} : ∀ {ts : List Ty} {vs : List Value} {cs : List C},iy w ts vs cs→∀ {j : Nat},j < ts.length→∃ ty c,ts[j]? = some ty∧cs[j]? = some c∧vs[j]? = some c.val∧vX w ty c
  | ty :: ts,v :: vs,c :: cs,⟨h1,h2,h3⟩,0,_=>⟨ty,c,rfl,rfl,by simp [h1],h2⟩
  | ty :: ts,v :: vs,c :: cs,⟨h1,h2,h3⟩,j + 1,h=>by
    obtain ⟨ty,c,a1,a2,a3,a4⟩:=BA h3 (j:=j) (by simpa using h)
    exact ⟨ty,c,by simpa using a1,by simpa using a2,by simpa using a3,a4⟩
def rR (P : Program) (r : TypeId→Option (List Ty)) : Nat→List Field→Option (List Ty)
  | _,[]=>some []
  | o,f :: fs=>if f.offset = o then (r f.type).bind fun ts=>if ts.length = P.cellsOf f.type then (rR P r (o + ts.length) fs).map (ts ++ ·) else none else none
def fN (P : Program) : Nat→Bool→TypeId→Option (List Ty)
  | 0,_,_=>none
  | n + 1,deep,t=>match P.underlying t with
    | some .bool=>some [.bool]
    | some (.int k)=>some [.int k]
    | some .string=>some [.str]
    | some (.slice e)=>if deep then (fN P n true e).bind fun ts=>if ts.length = P.cellsOf e∧0 < P.cellsOf e then some [.row ts] else none else none
    | some (.struct fs)=>(rR P (fN P n deep) 0 fs.toList).bind fun ts=>if ts.length = P.cellsOf t then some ts else none
    | _=>none
section
variable {H : Type} {enc : TypeId×Value→H} {P : Program} {w : World} {sp : Nat→Bool} {held : Bool}
theorem IU {r : TypeId→Option (List Ty)} {cs : List Value}
    (hr : ∀ t ts fuel cs' x,r t = some ts→DataW.trod enc P w 0 sp held fuel t cs' = some x→(∀ v∈cs',v∈cs)→∃ Cs,iy w ts cs' Cs) :
    ∀ (fs : List Field) (o : Nat) (ts : List Ty),rR P r o fs = some ts→(∀ f∈fs,∃ fuel x,DataW.trod enc P w 0 sp held fuel f.type ((cs.drop f.offset).take (P.cellsOf f.type)) = some x) →
      ∃ Cs,iy w ts ((cs.drop o).take ts.length) Cs
  | [],o,ts,h,_=>by
    cases h
    exact ⟨[],by simp [iy]⟩
  | f :: fs,o,ts,h,hx=>by
    simp only [rR] at h
    split at h
    · rename_i ho
      simp only [Option.bind_eq_some_iff] at h
      obtain ⟨t1,h1,h⟩:=h
      split at h
      · rename_i hl
        simp only [Option.map_eq_some_iff] at h
        obtain ⟨t2,h2,rfl⟩:=h
        obtain ⟨fuel,x,hf⟩:=hx f (List.mem_cons_self ..)
        obtain ⟨C1,g1⟩:=hr _ _ _ _ _ h1 hf fun v hv=>List.mem_of_mem_drop (List.mem_of_mem_take hv)
        obtain ⟨C2,g2⟩:=IU hr fs _ _ h2 fun f hf=>hx f (List.mem_cons_of_mem _ hf)
        refine ⟨C1 ++ C2,?_⟩
        rw [List.length_append,List.take_add,List.drop_drop]
        rw [ho,← hl] at g1
        exact Gm g1 g2
      · cases h
    · cases h
theorem UR {w : World} {g o n m : Nat} {spot : Option Nat} {vs : List Value} (hn : 0 < n) (h : w.cells? 0 ((⟨g,o,spot⟩ : Addr).add (0 * m)) n = some vs) : spot = none:=by
  obtain ⟨_,hl,e3⟩:=World.cells?_some h
  have e4:=e3 0 hn
  have : ∃ v,vs[0]? = some v:=⟨vs[0],List.getElem?_eq_getElem (by omega)⟩
  obtain ⟨v,hv⟩:=this
  rw [hv] at e4
  have ha : ((⟨g,o,spot⟩ : Addr).add (0 * m)).add 0 = ⟨g,o,spot⟩:=by simp [Addr.add]
  rw [ha] at e4
  unfold World.cell? at e4
  cases spot with
  | none=>rfl
  | some k =>
    split at e4
    · simp at e4
    · cases e4
theorem trod_good : ∀ (n : Nat) (deep : Bool) (t : TypeId) (ts : List Ty),fN P n deep t = some ts→∀ (fuel : Nat) (cs : List Value) (x : DataW H×List MemPlace),DataW.trod enc P w 0 sp held fuel t cs = some x→∃ Cs,iy w ts cs Cs
  | 0,_,_,_,h,_,_,_,_=>by cases h
  | n + 1,deep,t,ts,h,fuel,cs,x,hx=>by
    simp only [fN] at h
    split at h
    · rename_i hu
      cases h
      obtain ⟨b,rfl,rfl⟩:=DataW.trod_bool hu hx
      exact ⟨[.bool b],rfl,⟨trivial,trivial,trivial,trivial,fun _ _ h=>h,.bool⟩,trivial⟩
    · rename_i k hu
      cases h
      obtain ⟨m,rfl,rfl,hw⟩:=DataW.trod_int hu hx
      exact ⟨[.int k m],rfl,⟨trivial,trivial,trivial,trivial,fun _ _ h=>h,.int hw⟩,trivial⟩
    · rename_i hu
      cases h
      obtain ⟨s,rfl,rfl,hw⟩:=DataW.trod_string hu hx
      exact ⟨[.str s],rfl,⟨trivial,trivial,trivial,hw,fun _ _ h=>h,.str hw⟩,trivial⟩
    · rename_i e hu
      split at h
      · rename_i hd
        simp only [Option.bind_eq_some_iff] at h
        obtain ⟨te,h1,h⟩:=h
        split at h
        · rename_i hl
          obtain ⟨hl,hpos⟩:=hl
          cases h
          rcases DataW.trod_slice hu hx with ⟨rfl,rfl⟩ | ⟨a,len,cap,elems,rest,m,rfl,rfl,rfl,_,hlc,hcm,hel,ki,_,_⟩
          · refine ⟨[.row .sl te.length none 0 0 fun _ _=>.dead undef],rfl,⟨trivial,trivial,.inr (.inl rfl),⟨Nat.le_refl _,fun i j hi=>by omega,fun i j hi=>by omega,fun h=>(by cases h),fun i j hi=>by omega⟩,fun b k h=>(by cases h.1),?_⟩,trivial⟩
            exact fB.row (xs:=[]) (by simp) (fun r hr=>by cases hr) (fun r hr=>by cases hr)
          · obtain ⟨g,o,spot⟩:=a
            by_cases hl0 : len = 0
            · subst hl0
              refine ⟨[.row .sl te.length (some (g,o,spot)) 0 cap fun _ _=>.dead undef],rfl,⟨trivial,trivial,.inr (.inl rfl),⟨hlc,fun i j hi=>by omega,fun i j hi=>by omega,fun h=>(by cases h),fun i j hi=>by omega⟩,fun b k h=>(by cases h.1),?_⟩,trivial⟩
              exact fB.row (xs:=[]) (by simp) (fun r hr=>by cases hr) (fun r hr=>by cases hr)
            have R5 : spot = none:=by
              have:=ki 0 (by omega)
              rw [List.getElem?_eq_getElem (by omega),Option.bind_eq_some_iff] at this
              obtain ⟨vs,e1,e2⟩:=this
              exact UR hpos e1
            subst R5
            have hex : ∀ i,∃ (vs : List Value) (l : List C),i < len→w.cells? 0 ((⟨g,o,none⟩ : Addr).add (i * P.cellsOf e)) (P.cellsOf e) = some vs∧iy w te vs l:=fun i=>by
              by_cases hi : i < len
              · have:=ki i hi
                rw [List.getElem?_eq_getElem (by omega),Option.bind_eq_some_iff] at this
                obtain ⟨vs,e1,e2⟩:=this
                obtain ⟨l,hl⟩:=trod_good n true _ _ h1 _ _ _ e2
                exact ⟨vs,l,fun _=>⟨e1,hl⟩⟩
              · exact ⟨[],[],fun h=>(hi h).elim⟩
            let vs:=fun i=>(hex i).choose
            let l:=fun i=>(hex i).choose_spec.choose
            have hvl : ∀ i,i < len→w.cells? 0 ((⟨g,o,none⟩ : Addr).add (i * P.cellsOf e)) (P.cellsOf e) = some (vs i)∧iy w te (vs i) (l i):=fun i=>(hex i).choose_spec.choose_spec
            have hij : ∀ i j,i < len→j < te.length→∃ ty,te[j]? = some ty∧(l i)[j]? = some ((l i).getD j (.dead undef))∧w.cell? ⟨g,o + i * te.length + j,none⟩ = some ((l i).getD j (.dead undef)).val∧vX w ty ((l i).getD j (.dead undef)):=fun i j hi hj=>by
              obtain ⟨e1,e2⟩:=hvl i hi
              obtain ⟨ty,c,a1,a2,a3,a4⟩:=BA e2 hj
              have hc : (l i).getD j (.dead undef) = c:=by rw [List.getD_eq_getElem?_getD,a2]; rfl
              rw [hc]
              obtain ⟨_,_,e3⟩:=World.cells?_some e1
              have e4:=e3 j (by omega)
              rw [a3] at e4
              refine ⟨ty,a1,a2,?_,a4⟩
              rw [← e4]
              congr 1
              rw [hl]
              unfold Addr.add
              split <;> split <;> simp_all
            have hb : ∀ i j,i < len→j < te.length→g < w.heap.size:=fun i j hi hj=>by
              obtain ⟨_,_,_,h3,_⟩:=hij i j hi hj
              exact World.block_lt_of_cell? w _ h3
            refine ⟨[.row .sl te.length (some (g,o,none)) len cap fun i j=>(l i).getD j (.dead undef)],rfl,⟨trivial,trivial,.inr (.inl rfl),⟨hlc,fun i j hi hj=>⟨g,o,rfl,?_,fun _=>hb i j hi hj⟩,fun i j hi hj=>?_,fun h=>(by cases h),fun i j hi hj b k hf=>?_⟩,fun b k h=>(by cases h.1),?_⟩,trivial⟩
            · obtain ⟨ty,_,_,h3,h4⟩:=hij i j hi hj
              exact h3
            · obtain ⟨ty,_,_,h3,h4⟩:=hij i j hi hj
              exact ⟨h4.cell,h4.bU,h4.fits,h4.ok⟩
            · obtain ⟨ty,_,_,h3,h4⟩:=hij i j hi hj
              exact (h4.fp b k hf).elim
            · refine fB.row (by simpa using Nat.le_trans hlc hcm) (fun r hr=>?_) fun r hr j ty x hty B8=>?_
              · simp only [List.mem_map,List.mem_range] at hr
                obtain ⟨i,_,rfl⟩:=hr
                simp
              · simp only [List.mem_map,List.mem_range] at hr
                obtain ⟨i,hi,rfl⟩:=hr
                have hj : j < te.length:=by
                  rcases Nat.lt_or_ge j te.length with h | h
                  · exact h
                  · rw [List.getElem?_eq_none h] at hty; cases hty
                obtain ⟨ty',e1,_,_,h4⟩:=hij i j hi hj
                rw [e1] at hty
                cases hty
                rw [List.getElem?_map,List.getElem?_range hj] at B8
                simp only [Option.map_some,Option.some.injEq] at B8
                subst B8
                exact h4.sB
        · cases h
      · cases h
    · rename_i fs hu
      simp only [Option.bind_eq_some_iff] at h
      obtain ⟨te,h1,h⟩:=h
      split at h
      · rename_i hl
        cases h
        obtain ⟨xs,m,rfl,rfl,hcs,hxl,ki⟩:=DataW.trod_struct hu hx
        obtain ⟨Cs,hC⟩:=IU (cs:=cs) (fun t ts' fuel cs' x hr ht hm=>trod_good n deep t ts' hr fuel cs' x ht) fs.toList 0 ts h1 fun f hf=>by
          obtain ⟨i,hi,rfl⟩:=List.getElem_of_mem hf
          have hi' : i < fs.size:=by simpa using hi
          have:=ki i (fs[i]) (by simp [hi'])
          rw [List.getElem?_eq_getElem (by omega)] at this
          exact ⟨_,_,by simpa using this⟩
        refine ⟨Cs,?_⟩
        rw [List.drop_zero,hl,← hcs,List.take_length] at hC
        exact hC
      · cases h
    · cases h
theorem Eh : ∀ (n : Nat) (deep : Bool) (t : TypeId) (ts : List Ty),fN P n deep t = some ts→∀ (fuel : Nat) (cs : List Value) (x : DataW H×List MemPlace),DataW.trod enc P w 0 (fun _=>true) held fuel t cs = some x→DataW.trod enc P w 0 (fun b=>decide (b < w.heap.size)) held fuel t cs = some x
  | 0,_,_,_,h,_,_,_,_=>by cases h
  | n + 1,deep,t,ts,h,0,cs,x,hx=>by simp [DataW.trod] at hx
  | n + 1,deep,t,ts,h,fuel + 1,cs,x,hx=>by
    simp only [fN] at h
    split at h
    · rename_i hu
      obtain ⟨b,rfl,rfl⟩:=DataW.trod_bool hu hx
      simp [DataW.trod,hu]
    · rename_i k hu
      obtain ⟨m,rfl,rfl,hw⟩:=DataW.trod_int hu hx
      simp [DataW.trod,hu,hw]
    · rename_i hu
      obtain ⟨s,rfl,rfl,hw⟩:=DataW.trod_string hu hx
      simp [DataW.trod,hu,hw]
    · rename_i e hu
      split at h
      · simp only [Option.bind_eq_some_iff] at h
        obtain ⟨te,h1,h⟩:=h
        split at h
        · rename_i hl
          obtain ⟨hl,hpos⟩:=hl
          rcases DataW.trod_slice hu hx with ⟨rfl,rfl⟩ | ⟨a,len,cap,elems',rest',m,_,rfl,_⟩
          · simp [DataW.trod,hu]
          · unfold DataW.trod at hx ⊢
            simp only [hu] at hx ⊢
            split at hx
            · rename_i hc
              rw [if_pos hc]
              simp only [Option.map_eq_some_iff,Option.bind_eq_some_iff,if_true] at hx ⊢
              obtain ⟨elems,he,rest,oh,rfl⟩:=hx
              have one : ∀ (i : Nat) (y : DataW H×List MemPlace),(w.cells? 0 (a.add (i * P.cellsOf e)) (P.cellsOf e)).bind (DataW.trod enc P w 0 (fun _=>true) held fuel e) = some y→(w.cells? 0 (a.add (i * P.cellsOf e)) (P.cellsOf e)).bind (DataW.trod enc P w 0 (fun b=>decide (b < w.heap.size)) held fuel e) = some y:=fun i y hv=>by
                simp only [Option.bind_eq_some_iff] at hv ⊢
                obtain ⟨cs',gA,hy'⟩:=hv
                exact ⟨cs',gA,Eh n true _ _ h1 _ _ _ hy'⟩
              refine ⟨elems,mapM_carry he fun i y _ _ hv=>one i y hv,rest,?_,rfl⟩
              by_cases hb : a.block < w.heap.size
              · rw [if_pos (by simpa using hb)]
                exact mapM_carry oh fun i y _ _ hv=>one (len + i) y hv
              · rw [if_neg (by simpa using hb)]
                have : cap - len = 0:=by
                  rcases Nat.eq_zero_or_pos (cap - len) with h | h
                  · exact h
                  · have h0:=mapM_some_get oh 0 0 (by simp [h])
                    have hl' : 0 < rest.length:=by have:=mapM_some_length oh; simp at this; omega
                    rw [List.getElem?_eq_getElem hl',Option.bind_eq_some_iff] at h0
                    obtain ⟨vs,e1,_⟩:=h0
                    have:=World.cells?_block e1 hpos
                    refine (hb ?_).elim
                    unfold Addr.add at this
                    split at this <;> exact this
                rw [this] at oh
                exact oh
            · cases hx
        · cases h
      · cases h
    · rename_i fs hu
      simp only [Option.bind_eq_some_iff] at h
      obtain ⟨te,h1,h⟩:=h
      unfold DataW.trod at hx ⊢
      simp only [hu] at hx ⊢
      have each : ∀ (o : Nat) (l : List Field) (ts : List Ty),rR P (fN P n deep) o l = some ts→∀ f∈l,∃ t1,fN P n deep f.type = some t1:=by
        intro o l
        induction l generalizing o with
        | nil=>intro _ _ f hf; cases hf
        | cons f l ih =>
          intro ts h f' hf'
          simp only [rR] at h
          split at h
          · simp only [Option.bind_eq_some_iff] at h
            obtain ⟨t1,e1,h⟩:=h
            split at h
            · simp only [Option.map_eq_some_iff] at h
              obtain ⟨t2,e2,_⟩:=h
              rcases List.mem_cons.1 hf' with rfl | hf'
              · exact ⟨t1,e1⟩
              · exact ih _ _ e2 f' hf'
            · cases h
          · cases h
      split at hx
      · rename_i hc
        rw [if_pos hc]
        simp only [Option.map_eq_some_iff] at hx ⊢
        obtain ⟨xs,hx,rfl⟩:=hx
        refine ⟨xs,mapM_carry hx fun f y hf _ hv=>?_,rfl⟩
        obtain ⟨t1,e1⟩:=each _ _ _ h1 f hf
        exact Eh n deep _ _ e1 _ _ _ hv
      · cases hx
    · cases h
inductive jr where
  | one (ty : Ty)
  | agg (tys : List Ty)
inductive jW : jr→X→Prop
  | one {ty x} : fB ty x→jW (.one ty) x
  | agg {tys : List Ty} {l : List X} : l.length = tys.length→(∀ (j : Nat) ty x,tys[j]? = some ty→l[j]? = some x→fB ty x)→jW (.agg tys) (.agg l)
def nS (P : Program) (t : TypeId) : Option jr:=match P.underlying t with
  | some (.struct _)=>(fN P 20 true t).map .agg
  | some .bool=>some (.one .bool)
  | some (.int k)=>some (.one (.int k))
  | some .string=>some (.one .str)
  | some (.slice _)=>(fN P 20 true t).bind fun
    | [ty]=>some (.one ty)
    | _=>none
  | _=>none
theorem EH {c : C} (h1 : c.cell) (h2 : c.bU) : c.bare:=by
  cases c <;> first | trivial | exact h2.elim
structure Ev (w : World) (a : jr) (v : Value) (c : C) : Prop where
  val : c.val = v
  ok : c.ok w (Zf (fun b _=>b < w.heap.size) fun _ _=>False)
  bare : c.bare
  fp : ∀ b k,¬ c.fp b k
  sB : jW a c.er
theorem wZ {ty : Ty} {cs : List Value} {Cs : List C} {v : Value} (h : iy w [ty] cs Cs) (e : cs = [v]) : ∃ c,Ev w (.one ty) v c:=by
  subst e
  match Cs,h with
  | [c],⟨h1,h2,_⟩=>exact ⟨c,h1,h2.ok,EH h2.cell h2.bU,h2.fp,.one h2.sB⟩
theorem KC {r : Reach} {base : Nat} {t : TypeId} {v : Value} {d : DataW H} {p : List MemPlace} {a : jr} (ha : nS P t = some a) (hv : Value.okWide P w r base t v) (hd : DataW.Trod enc P w 0 sp held t v d p) : ∃ c,Ev w a v c:=by
  obtain ⟨fuel,hf⟩:=hd
  unfold nS at ha
  split at ha
  · rename_i fs hu
    simp only [Option.map_eq_some_iff] at ha
    obtain ⟨ts,ht,rfl⟩:=ha
    unfold Value.okWide at hv
    rw [hu] at hv
    obtain ⟨cs,rfl,_,ts',_,_,hcell⟩:=hv
    obtain ⟨Cs,hC⟩:=trod_good _ _ _ _ ht _ _ _ hf
    obtain ⟨l1,l2,l3⟩:=Gn hC
    have ki : ∀ j,j < Cs.length→∃ ty,ts[j]? = some ty∧vX w ty (Cs.getD j (.dead undef)):=fun j hj=>by
      obtain ⟨ty,c,a1,a2,a3,a4⟩:=BA hC (j:=j) (by omega)
      exact ⟨ty,a1,by rw [List.getD_eq_getElem?_getD,a2]; exact a4⟩
    refine ⟨.agg Cs.length fun j=>Cs.getD j (.dead undef),?_,⟨fun j hj=>?_,fun j hj b k hf=>?_⟩,fun j hj=>?_,fun b k ⟨j,hj,hf⟩=>?_,?_⟩
    · show Value.agg _ = _
      congr 1
      apply Array.ext'
      show (List.range Cs.length).map (fun j=>(Cs.getD j (.dead undef)).val) = cs.toList
      have : (Value.agg cs).cells.toList = cs.toList:=rfl
      rw [← this,l3]
      letI : Bs:=⟨w⟩
      exact jh Cs _ C.val
    · obtain ⟨_,_,h⟩:=ki j hj; exact ⟨h.cell,h.ok⟩
    · obtain ⟨_,_,h⟩:=ki j hj; exact (h.fp b k hf).elim
    · obtain ⟨_,_,h⟩:=ki j hj; exact EH h.cell h.bU
    · obtain ⟨_,_,h⟩:=ki j hj; exact h.fp b k hf
    · refine jW.agg (by simpa using l2) fun j ty x hty hx=>?_
      have hj : j < Cs.length:=by
        rcases Nat.lt_or_ge j Cs.length with h | h
        · exact h
        · rw [List.getElem?_eq_none (by simpa using h)] at hx; cases hx
      obtain ⟨ty',e1,h⟩:=ki j hj
      rw [e1] at hty
      cases hty
      rw [List.getElem?_map,List.getElem?_range hj] at hx
      simp only [Option.map_some,Option.some.injEq] at hx
      subst hx
      exact h.sB
  · rename_i hu
    cases ha
    obtain ⟨Cs,hC⟩:=trod_good 1 true t [.bool] (by simp [fN,hu]) _ _ _ hf
    obtain ⟨b,hb,_⟩:=DataW.trod_bool hu hf
    exact wZ hC (v:=v) (by
      unfold Value.okWide at hv; rw [hu] at hv
      unfold Cell.okWide at hv; rw [hu] at hv; unfold Cell.ok at hv; rw [hu] at hv
      cases v <;> first | rfl | (simp at hv; done))
  · rename_i k hu
    cases ha
    obtain ⟨m,hb,_⟩:=DataW.trod_int hu hf
    obtain ⟨Cs,hC⟩:=trod_good 1 true t [.int k] (by simp [fN,hu]) _ _ _ hf
    exact wZ hC (v:=v) (by
      unfold Value.okWide at hv; rw [hu] at hv
      unfold Cell.okWide at hv; rw [hu] at hv; unfold Cell.ok at hv; rw [hu] at hv
      cases v <;> first | rfl | (simp at hv; done))
  · rename_i hu
    cases ha
    obtain ⟨m,hb,_⟩:=DataW.trod_string hu hf
    obtain ⟨Cs,hC⟩:=trod_good 1 true t [.str] (by simp [fN,hu]) _ _ _ hf
    exact wZ hC (v:=v) (by
      unfold Value.okWide at hv; rw [hu] at hv
      unfold Cell.okWide at hv; rw [hu] at hv; unfold Cell.ok at hv; rw [hu] at hv
      cases v <;> first | rfl | (simp at hv; done))
  · rename_i e hu
    simp only [Option.bind_eq_some_iff] at ha
    obtain ⟨ts,ht,ha⟩:=ha
    split at ha
    · rename_i ty
      cases ha
      have hc : Cell.okWide P w r base t v:=by unfold Value.okWide at hv; rw [hu] at hv; exact hv
      have hv1 : v.cells.toList = [v]:=by
        unfold Cell.okWide at hc; rw [hu] at hc; unfold Cell.ok at hc; rw [hu] at hc
        cases v <;> first | rfl | (simp at hc; done)
      obtain ⟨Cs,hC⟩:=trod_good _ _ _ _ ht _ _ _ hf
      exact wZ hC hv1
    · cases ha
  · cases ha
def pJ : List jr→List X→Prop
  | [],[]=>True
  | a :: as,x :: xs=>jW a x∧pJ as xs
  | _,_=>False
theorem EE {r : Reach} {base : Nat} : ∀ {ts : List TypeId} {as : List jr} {vs : List Value} {ds : List (DataW H)} {p : List MemPlace},ts.map (nS P) = as.map some →
    (∀ (j : Nat) t v,ts[j]? = some t→vs[j]? = some v→Value.okWide P w r base t v)→DataW.TrodAll enc P w 0 sp held ts vs ds p →
    ∃ cs : List C,cs.map C.val = vs∧(∀ c∈cs,c.ok w (Zf (fun b _=>b < w.heap.size) fun _ _=>False)∧c.bare∧∀ b k,¬ c.fp b k)∧pJ as (cs.map C.er)
  | [],[],[],[],_,_,_,_=>⟨[],rfl,fun _ h=>(by cases h),trivial⟩
  | t :: ts,a :: as,v :: vs,d :: ds,_,ha,hv,⟨p,q,h1,h2,_⟩=>by
    simp only [List.map_cons,List.cons.injEq] at ha
    obtain ⟨c,hc⟩:=KC ha.1 (hv 0 t v rfl rfl) h1
    obtain ⟨cs,e1,e2,e3⟩:=EE ha.2 (fun j t' v' ht dr=>hv (j + 1) t' v' (by simpa using ht) (by simpa using dr)) h2
    refine ⟨c :: cs,by simp [hc.val,e1],fun x hx=>?_,⟨hc.sB,e3⟩⟩
    rcases List.mem_cons.1 hx with rfl | hx
    · exact ⟨hc.ok,hc.bare,hc.fp⟩
    · exact e2 x hx
theorem YG {r : Reach} {base : Nat} {ts : List TypeId} {as : List jr} {vs : List Value} {ds : List (DataW H)} {p : List MemPlace} {f : FuncId} (ha : ts.map (nS P) = as.map some)
    (hv : ∀ (j : Nat) t v,ts[j]? = some t→vs[j]? = some v→Value.okWide P w r base t v) (hd : DataW.TrodAll enc P w 0 sp held ts vs ds p)
    (QM : ∀ xs,pJ as xs→@AC ⟨w⟩ P f xs fun r _=>r = .bool true) : Calls P f vs.toArray w fun e w'=>e = .returned (.bool true)∧Below w.heap.size w w':=by
  obtain ⟨cs,rfl,hcs,hc⟩:=EE ha hv hd
  refine (QM _ hc w (fun b _=>b < w.heap.size) (fun _ _=>False) cs rfl ⟨fun x hx=>(hcs x hx).1,fun x hx=>(hcs x hx).2.1,fun x hx b k hf=>((hcs x hx).2.2 b k hf).elim,fun b k h=>h.elim id False.elim,?_⟩ fun b hb=>⟨rfl,fun k=>.inl hb⟩).mono fun e w' ⟨r,ps,az,hD,hr⟩=>?_
  · refine List.pairwise_iff_getElem.2 fun i j hi hj _ b k hf=>((hcs _ (List.getElem_mem hi)).2.2 b k hf).elim
  · letI : Bs:=⟨w⟩
    have hr':=mK hr
    subst hr'
    exact ⟨hD.ends,(hD.ext.mono (S':=fun _ _=>False) fun b k ⟨x,hx,hf⟩ _=>(hcs x hx).2.2 b k hf).below⟩
theorem KB {t : TypeId} {a : jr} (h : nS P t = some a) : ∃ n deep ts,fN P n deep t = some ts:=by
  unfold nS at h
  split at h
  · simp only [Option.map_eq_some_iff] at h
    obtain ⟨ts,ht,_⟩:=h
    exact ⟨_,_,ts,ht⟩
  · rename_i hu; exact ⟨1,true,[.bool],by simp [fN,hu]⟩
  · rename_i k hu; exact ⟨1,true,[.int k],by simp [fN,hu]⟩
  · rename_i hu; exact ⟨1,true,[.str],by simp [fN,hu]⟩
  · simp only [Option.bind_eq_some_iff] at h
    obtain ⟨ts,ht,_⟩:=h
    exact ⟨_,_,ts,ht⟩
  · cases h
theorem XU {w' : World} (hb : Below w.heap.size w w') : ∀ {ts : List TypeId} {as : List jr} {vs : List Value} {ds : List (DataW H)} {p : List MemPlace},ts.map (nS P) = as.map some →
    DataW.TrodAll enc P w 0 (fun _=>true) held ts vs ds p→DataW.TrodAll enc P w' 0 (fun b=>decide (b < w.heap.size)) held ts vs ds p
  | [],[],[],[],_,_,h=>h
  | t :: ts,a :: as,v :: vs,d :: ds,_,ha,⟨p,q,⟨fuel,h1⟩,h2,e⟩=>by
    simp only [List.map_cons,List.cons.injEq] at ha
    obtain ⟨n,deep,tt,ht⟩:=KB ha.1
    have h3:=Eh n deep t tt ht _ _ _ h1
    exact ⟨p,q,⟨fuel,DataW.trod_carry _ _ _ _ h3 fun m hm=>hb.same (DataW.trod_lt _ _ _ _ h3 m hm)⟩,XU hb ha.2 h2,e⟩
end
end M
set_option linter.unusedVariables false
set_option linter.unusedSimpArgs false
namespace M
open Go
def di (ts : List Ty) (r : List X) : Prop:=r.length = ts.length∧∀ (j : Nat) ty x,ts[j]? = some ty→r[j]? = some x→fB ty x
theorem di.nil {r : List X} (h : di [] r) : r = []:=List.length_eq_zero_iff.1 h.1
theorem di.cons {ty : Ty} {ts : List Ty} {r : List X} (h : di (ty :: ts) r) : ∃ x r',r = x :: r'∧fB ty x∧di ts r':=by
  obtain ⟨h1,h2⟩:=h
  cases r with
  | nil=>cases h1
  | cons x r=>exact ⟨x,r,rfl,h2 0 ty x rfl rfl,by simpa using h1,fun j ty x ht hx=>h2 (j + 1) ty x (by simpa using ht) (by simpa using hx)⟩
theorem iT {x : X} (h : fB .str x) : ∃ s : ah,x = .str ⟨s.toArray⟩∧s.length≤9223372036854775807:=by
  cases h with
  | str h=>rename_i s; exact ⟨s.data.toList,by simp,by rw [Array.length_toList]; exact h⟩
theorem KL {n : Int} (h : (Lit.int .i64 n).wf = true) : -9223372036854775808≤n∧n≤9223372036854775807:=by
  have h' : (decide (IntKind.i64.min≤n) && decide (n≤IntKind.i64.max)) = true:=h
  rw [Bool.and_eq_true,decide_eq_true_eq,decide_eq_true_eq] at h'
  exact h'
theorem j7 {x : X} (h : fB (.int .i64) x) : ∃ n : Int,x = .int .i64 n∧-9223372036854775808≤n∧n≤9223372036854775807:=by
  cases h with
  | int h =>
    rename_i n
    refine ⟨n,rfl,?_⟩
    exact KL h
theorem Hz {α : Type} {e : α→List X} {ok : α→Prop} : ∀ {xs : List (List X)},(∀ r∈xs,∃ a,r = e a∧ok a)→∃ l : List α,xs = l.map e∧∀ a∈l,ok a
  | [],_=>⟨[],rfl,fun _ h=>by cases h⟩
  | r :: xs,h=>by
    obtain ⟨a,e1,e2⟩:=h r (List.mem_cons_self ..)
    obtain ⟨l,e3,e4⟩:=Hz (fun r hr=>h r (List.mem_cons_of_mem _ hr))
    refine ⟨a :: l,by simp [e1,e3],fun b hb=>?_⟩
    rcases List.mem_cons.1 hb with rfl | hb
    · exact e2
    · exact e4 b hb
theorem mH {α : Type} (e : α→List X) (ok : α→Prop) {ts : List Ty} {x : X} (h : fB (.row ts) x) (hr : ∀ r,di ts r→∃ a,r = e a∧ok a) : ∃ l : List α,x = .row .sl ts.length (l.map e)∧l.length≤9223372036854775807∧∀ a∈l,ok a:=by
  cases h with
  | row h1 h2 h3 =>
    rename_i xs
    obtain ⟨l,rfl,hl⟩:=Hz (e:=e) (ok:=ok) (xs:=xs) fun r hr'=>hr r ⟨h2 r hr',h3 r hr'⟩
    rw [List.length_map] at h1
    exact ⟨l,rfl,h1,hl⟩
theorem Fu {tys : List Ty} {x : X} (h : jW (.agg tys) x) : ∃ l,x = .agg l∧di tys l:=by
  cases h with
  | agg h1 h2=>exact ⟨_,rfl,h1,h2⟩
theorem Ze {ty : Ty} {x : X} (h : jW (.one ty) x) : fB ty x:=by
  cases h with
  | one h=>exact h
theorem Zg {a : jr} {as : List jr} {xs : List X} (h : pJ (a :: as) xs) : ∃ x xs',xs = x :: xs'∧jW a x∧pJ as xs':=by
  match xs,h with
  | x :: xs',⟨h1,h2⟩=>exact ⟨x,xs',rfl,h1,h2⟩
theorem Zh {xs : List X} (h : pJ [] xs) : xs = []:=by
  match xs,h with
  | [],_=>rfl
structure Yb (d : ew) : Prop where
  hb : d.cells.length≤9223372036854775807
  hs : ∀ s∈d.cells,s.length≤9223372036854775807
  hb' : d.pending.length≤9223372036854775807
  hs' : ∀ s∈d.pending,s.text.length≤9223372036854775807
  hi : ∀ s∈d.pending,-9223372036854775808≤s.at_∧s.at_≤9223372036854775807
end M
set_option linter.unusedVariables false
set_option linter.unusedSimpArgs false
namespace M
open Go
end M
set_option linter.unusedVariables false
set_option linter.unusedSimpArgs false
namespace M
open Go
theorem IZ (m : Nat) (h : m < 256) : nH [[.int .u8 (m : Int)]] = some [UInt8.ofNat m]:=by
  have:=IY [UInt8.ofNat m]
  have e : ((UInt8.ofNat m).toNat : Int) = m:=by
    rw [UInt8.toNat_ofNat']
    omega
  simp only [List.map_cons,List.map_nil,e] at this
  exact this
theorem Ek {n : Int} (h1 : 0≤n) (h2 : n < 256) : IntKind.u8.wrap n = n:=by
  simp only [IntKind.wrap,IntKind.signed,IntKind.bits,Bool.false_and,Bool.false_eq_true,if_false]
  omega
def cS (n : Nat) : ah:=Lib.decDigits n
theorem SJ : ∀ (n : Nat) (out : ah),n≠0→je n out = cS n ++ out:=by
  intro n
  induction n using Nat.strongRecOn with
  | ind n ih =>
    intro out h
    unfold je cS
    rw [dif_neg h,Lib.decDigits]
    by_cases h1 : n < 10
    · have e : n / 10 = 0:=by omega
      have e2 : n % 10 = n:=by omega
      rw [dif_pos h1,e,e2]
      unfold je
      rw [dif_pos rfl]
      rfl
    · rw [dif_neg h1,ih (n / 10) (by omega) _ (by omega)]
      unfold cS
      rw [List.append_assoc]
      rfl
theorem A9 : cS 0 = [48]:=by unfold cS; rw [Lib.decDigits]; rfl
theorem Nh (k : Nat) : ∀ (n : Nat),n < 10 ^ (k + 1)→(cS n).length≤k + 1:=by
  induction k with
  | zero =>
    intro n h
    unfold cS
    rw [Lib.decDigits,dif_pos (by simpa using h)]
    simp
  | succ k ih =>
    intro n h
    unfold cS
    rw [Lib.decDigits]
    by_cases h1 : n < 10
    · rw [dif_pos h1]; simp
    · rw [dif_neg h1,List.length_append]
      have:=ih (n / 10) (by rw [Nat.pow_succ] at h; omega)
      unfold cS at this
      simp only [List.length_cons,List.length_nil]
      omega
theorem Hl (n : Nat) : Lib.itoa (n : Int) = cS n:=by
  unfold Lib.itoa cS
  rw [if_neg (by omega)]
  rfl
end M
set_option linter.unusedVariables false
set_option linter.unusedSimpArgs false
namespace M
open Go
def wS (s : ah) : Nat:=s.length
def wL {α : Type} (w : α→Nat) (l : List α) : Nat:=l.length + (l.map w).sum
theorem ic {α : Type} {w : α→Nat} : ∀ {l : List α} {a : α},a∈l→w a≤wL w l
  | b :: l,a,h=>by
    rcases List.mem_cons.1 h with rfl | h
    · simp [wL]; omega
    · have:=ic (w:=w) h
      simp [wL] at this ⊢; omega
theorem bw {α : Type} {w : α→Nat} (l : List α) : l.length≤wL w l:=by unfold wL; omega
def aF (n : Int) (w : Nat) : Int:=if (w : Int)≤n then n - w else -1
theorem cu (n : Int) (w : Nat) : ((w : Int)≤n∧aF n w = n - w)∨(n < (w : Int)∧aF n w = -1):=by
  unfold aF
  split
  · exact .inl ⟨by assumption,rfl⟩
  · exact .inr ⟨by omega,rfl⟩
theorem vE (w : Nat) (n : Int) : aF n w≤n∨aF n w < 0:=by have:=cu n w; omega
theorem rN {α : Type} (w : α→Nat) : ∀ (l : List α) (n : Int),0≤n→eu (fun b n=>aF n (w b)) l n = aF n (l.map w).sum
  | [],n,h=>by simp [eu,aF,h]
  | b :: l,n,h=>by
    simp only [eu,List.map_cons,List.sum_cons]
    rcases cu n (w b) with ⟨h1,h2⟩ | ⟨h1,h2⟩
    · rw [if_neg (by omega),rN w l _ (by omega),h2]
      rcases cu (n - w b) (l.map w).sum with ⟨h3,h4⟩ | ⟨h3,h4⟩ <;> rcases cu n (w b + (l.map w).sum) with ⟨h5,h6⟩ | ⟨h5,h6⟩ <;> omega
    · rw [if_pos (by omega)]
      rcases cu n (w b + (l.map w).sum) with ⟨h5,h6⟩ | ⟨h5,h6⟩ <;> omega
def bI (n : Int) : Prop:=-9223372036854775808≤n∧n≤9223372036854775807
def bS (s : ah) : Prop:=s.length≤9223372036854775807
def bB (_ : Bool) : Prop:=True
def bL {α : Type} (b : α→Prop) (l : List α) : Prop:=l.length≤9223372036854775807∧∀ a∈l,b a
@[simp] def eI (n : Int) : List X:=[.int .i64 n]
@[simp] theorem aaN (m : Md) (l : List Int) : X.bC m (l.map eI) = l.map eI:=by induction l <;> simp_all [X.bC,X.cO,X.md]
@[simp] theorem YS (l : List Int) : X.clean.aS (l.map eI) = true:=by induction l <;> simp_all [X.clean.aS,X.clean.bK,X.clean]
structure aG where
  name : ah
  value : ah
  deriving DecidableEq
@[simp] def aD (a : aG) : List X:=[.str ⟨(a.name).toArray⟩,.str ⟨(a.value).toArray⟩]
@[simp] theorem aaM (m : Md) (l : List aG) : X.bC m (l.map aD) = l.map aD:=by induction l <;> simp_all [X.bC,X.cO,X.md]
@[simp] theorem YR (l : List aG) : X.clean.aS (l.map aD) = true:=by induction l <;> simp_all [X.clean.aS,X.clean.bK,X.clean]
def aI (a : aG) : Nat:=a.name.length + a.value.length
structure mw (x : aG) : Prop where
  Sl : bS x.name
  Su : bS x.value
theorem M8 (a b : aG) : decide (a = b) = (decide (a.name = b.name) && decide (a.value = b.value)):=by
  cases a; cases b; simp [Bool.and_assoc]
structure cR where
  status : Int
  fields : List aG
  body : ah
  deriving DecidableEq
@[simp] def eO (m : Md) (a : cR) : List X:=[.int .i64 a.status,.row m 2 ((a.fields).map aD),.str ⟨(a.body).toArray⟩]
@[simp] theorem aaS (m m' : Md) (l : List cR) : X.bC m (l.map (eO m')) = l.map (eO m):=by induction l <;> simp_all [X.bC,X.cO,X.md]
@[simp] theorem YX (l : List cR) : X.clean.aS (l.map (eO .own)) = true:=by induction l <;> simp_all [X.clean.aS,X.clean.bK,X.clean]
@[simp] theorem Za (l : List cR) : X.clean.aS (l.map (eO .sl)) = true:=by induction l <;> simp_all [X.clean.aS,X.clean.bK,X.clean]
def cj (a : cR) : Nat:=wL aI a.fields + a.body.length
structure pO (x : cR) : Prop where
  aaw : bI x.status
  Cz : (bL mw) x.fields
  Cy : bS x.body
theorem Nc (a b : cR) : decide (a = b) = (decide (a.status = b.status) && decide (a.fields = b.fields) && decide (a.body = b.body)):=by
  cases a; cases b; simp [Bool.and_assoc]
structure Rq where
  method : Int
  path : ah
  fields : List aG
  body : ah
  deriving DecidableEq
@[simp] def cw (m : Md) (a : Rq) : List X:=[.int .i64 a.method,.str ⟨(a.path).toArray⟩,.row m 2 ((a.fields).map aD),.str ⟨(a.body).toArray⟩]
@[simp] theorem aaR (m m' : Md) (l : List Rq) : X.bC m (l.map (cw m')) = l.map (cw m):=by induction l <;> simp_all [X.bC,X.cO,X.md]
@[simp] theorem YW (l : List Rq) : X.clean.aS (l.map (cw .own)) = true:=by induction l <;> simp_all [X.clean.aS,X.clean.bK,X.clean]
@[simp] theorem Y9 (l : List Rq) : X.clean.aS (l.map (cw .sl)) = true:=by induction l <;> simp_all [X.clean.aS,X.clean.bK,X.clean]
def cx (a : Rq) : Nat:=a.path.length + wL aI a.fields + a.body.length
structure mz (x : Rq) : Prop where
  aap : bI x.method
  CA : bS x.path
  Cz : (bL mw) x.fields
  Cy : bS x.body
theorem Nb (a b : Rq) : decide (a = b) = (decide (a.method = b.method) && decide (a.path = b.path) && decide (a.fields = b.fields) && decide (a.body = b.body)):=by
  cases a; cases b; simp [Bool.and_assoc]
structure Ob where
  path : ah
  names : List ah
  values : List ah
  resp : cR
  t : Int
  deriving DecidableEq
@[simp] def bu (m : Md) (a : Ob) : List X:=[.str ⟨(a.path).toArray⟩,.row m 1 ((a.names).map eS),.row m 1 ((a.values).map eS),.int .i64 a.resp.status,.row m 2 ((a.resp.fields).map aD),.str ⟨(a.resp.body).toArray⟩,.int .i64 a.t]
@[simp] theorem aaP (m m' : Md) (l : List Ob) : X.bC m (l.map (bu m')) = l.map (bu m):=by induction l <;> simp_all [X.bC,X.cO,X.md]
@[simp] theorem YU (l : List Ob) : X.clean.aS (l.map (bu .own)) = true:=by induction l <;> simp_all [X.clean.aS,X.clean.bK,X.clean]
@[simp] theorem Y7 (l : List Ob) : X.clean.aS (l.map (bu .sl)) = true:=by induction l <;> simp_all [X.clean.aS,X.clean.bK,X.clean]
def bG (a : Ob) : Nat:=a.path.length + wL wS a.names + wL wS a.values + cj a.resp
structure si (x : Ob) : Prop where
  CA : bS x.path
  Sm : (bL bS) x.names
  Sv : (bL bS) x.values
  yf : pO x.resp
  CC : bI x.t
theorem Na (a b : Ob) : decide (a = b) = (decide (a.path = b.path) && decide (a.names = b.names) && decide (a.values = b.values) && decide (a.resp = b.resp) && decide (a.t = b.t)):=by
  cases a; cases b; simp [Bool.and_assoc]
structure Kp where
  obj : Ob
  at_ : Int
  seq : Int
  deriving DecidableEq
@[simp] def aQ (m : Md) (a : Kp) : List X:=[.str ⟨(a.obj.path).toArray⟩,.row m 1 ((a.obj.names).map eS),.row m 1 ((a.obj.values).map eS),.int .i64 a.obj.resp.status,.row m 2 ((a.obj.resp.fields).map aD),.str ⟨(a.obj.resp.body).toArray⟩,.int .i64 a.obj.t,.int .i64 a.at_,.int .i64 a.seq]
@[simp] theorem aaO (m m' : Md) (l : List Kp) : X.bC m (l.map (aQ m')) = l.map (aQ m):=by induction l <;> simp_all [X.bC,X.cO,X.md]
@[simp] theorem YT (l : List Kp) : X.clean.aS (l.map (aQ .own)) = true:=by induction l <;> simp_all [X.clean.aS,X.clean.bK,X.clean]
@[simp] theorem Y6 (l : List Kp) : X.clean.aS (l.map (aQ .sl)) = true:=by induction l <;> simp_all [X.clean.aS,X.clean.bK,X.clean]
def bt (a : Kp) : Nat:=bG a.obj
structure pN (x : Kp) : Prop where
  Hs : si x.obj
  Sf : bI x.at_
  Sr : bI x.seq
theorem M9 (a b : Kp) : decide (a = b) = (decide (a.obj = b.obj) && decide (a.at_ = b.at_) && decide (a.seq = b.seq)):=by
  cases a; cases b; simp [Bool.and_assoc]
def ck (a : Wr) : Nat:=a.text.length
structure pP (x : Wr) : Prop where
  Sf : bI x.at_
  Ss : bS x.text
theorem Nf (a b : Wr) : decide (a = b) = (decide (a.at_ = b.at_) && decide (a.text = b.text)):=by
  cases a; cases b; simp [Bool.and_assoc]
def cH (a : ew) : Nat:=wL wS a.cells + wL ck a.pending
structure Av (x : ew) : Prop where
  Si : (bL bS) x.cells
  Sq : (bL pP) x.pending
theorem M7 (a b : ew) : decide (a = b) = (decide (a.cells = b.cells) && decide (a.pending = b.pending)):=by
  cases a; cases b; simp [Bool.and_assoc]
structure Bn where
  kind : Int
  a : ah
  b : ah
  t : Int
  deriving DecidableEq
@[simp] def bg (a : Bn) : List X:=[.int .i64 a.kind,.str ⟨(a.a).toArray⟩,.str ⟨(a.b).toArray⟩,.int .i64 a.t]
@[simp] theorem aaI (m : Md) (l : List Bn) : X.bC m (l.map bg) = l.map bg:=by induction l <;> simp_all [X.bC,X.cO,X.md]
@[simp] theorem YN (l : List Bn) : X.clean.aS (l.map bg) = true:=by induction l <;> simp_all [X.clean.aS,X.clean.bK,X.clean]
def aN (a : Bn) : Nat:=a.a.length + a.b.length
structure nT (x : Bn) : Prop where
  Hr : bI x.kind
  Hp : bS x.a
  Sg : bS x.b
  CC : bI x.t
theorem M6 (a b : Bn) : decide (a = b) = (decide (a.kind = b.kind) && decide (a.a = b.a) && decide (a.b = b.b) && decide (a.t = b.t)):=by
  cases a; cases b; simp [Bool.and_assoc]
structure Sh where
  bz : ew
  au : List Kp
  aP : List Bn
  next : Int
  seq : Int
  deriving DecidableEq
@[simp] def bk (m : Md) (a : Sh) : List X:=[.row m 1 ((a.bz.cells).map eS),.row m 2 ((a.bz.pending).map eW),.row m 9 ((a.au).map (aQ m)),.row m 4 ((a.aP).map bg),.int .i64 a.next,.int .i64 a.seq]
@[simp] theorem aaV (m m' : Md) (l : List Sh) : X.bC m (l.map (bk m')) = l.map (bk m):=by induction l <;> simp_all [X.bC,X.cO,X.md]
@[simp] theorem Y0 (l : List Sh) : X.clean.aS (l.map (bk .own)) = true:=by induction l <;> simp_all [X.clean.aS,X.clean.bK,X.clean]
@[simp] theorem Zc (l : List Sh) : X.clean.aS (l.map (bk .sl)) = true:=by induction l <;> simp_all [X.clean.aS,X.clean.bK,X.clean]
def bP (a : Sh) : Nat:=cH a.bz + wL bt a.au + wL aN a.aP
structure sj (x : Sh) : Prop where
  Sk : Av x.bz
  Sn : (bL pN) x.au
  Hq : (bL nT) x.aP
  aaq : bI x.next
  Sr : bI x.seq
theorem Nd (a b : Sh) : decide (a = b) = (decide (a.bz = b.bz) && decide (a.au = b.au) && decide (a.aP = b.aP) && decide (a.next = b.next) && decide (a.seq = b.seq)):=by
  cases a; cases b; simp [Bool.and_assoc]
structure Fl where
  q : Rq
  who : List Int
  old : Ob
  BI : Bool
  deriving DecidableEq
@[simp] def sH (m : Md) (a : Fl) : List X:=[.int .i64 a.q.method,.str ⟨(a.q.path).toArray⟩,.row m 2 ((a.q.fields).map aD),.str ⟨(a.q.body).toArray⟩,.row m 1 ((a.who).map eI),.str ⟨(a.old.path).toArray⟩,.row m 1 ((a.old.names).map eS),.row m 1 ((a.old.values).map eS),.int .i64 a.old.resp.status,.row m 2 ((a.old.resp.fields).map aD),.str ⟨(a.old.resp.body).toArray⟩,.int .i64 a.old.t,.bool a.BI]
@[simp] theorem aaL (m m' : Md) (l : List Fl) : X.bC m (l.map (sH m')) = l.map (sH m):=by induction l <;> simp_all [X.bC,X.cO,X.md]
@[simp] theorem YQ (l : List Fl) : X.clean.aS (l.map (sH .own)) = true:=by induction l <;> simp_all [X.clean.aS,X.clean.bK,X.clean]
@[simp] theorem Y5 (l : List Fl) : X.clean.aS (l.map (sH .sl)) = true:=by induction l <;> simp_all [X.clean.aS,X.clean.bK,X.clean]
structure KF (x : Fl) : Prop where
  CB : mz x.q
  aax : (bL bI) x.who
  aas : si x.old
  aan : bB x.BI
structure Se where
  q : Rq
  resp : cR
  t : Int
  deriving DecidableEq
@[simp] def sJ (m : Md) (a : Se) : List X:=[.int .i64 a.q.method,.str ⟨(a.q.path).toArray⟩,.row m 2 ((a.q.fields).map aD),.str ⟨(a.q.body).toArray⟩,.int .i64 a.resp.status,.row m 2 ((a.resp.fields).map aD),.str ⟨(a.resp.body).toArray⟩,.int .i64 a.t]
@[simp] theorem aaU (m m' : Md) (l : List Se) : X.bC m (l.map (sJ m')) = l.map (sJ m):=by induction l <;> simp_all [X.bC,X.cO,X.md]
@[simp] theorem YZ (l : List Se) : X.clean.aS (l.map (sJ .own)) = true:=by induction l <;> simp_all [X.clean.aS,X.clean.bK,X.clean]
@[simp] theorem Zb (l : List Se) : X.clean.aS (l.map (sJ .sl)) = true:=by induction l <;> simp_all [X.clean.aS,X.clean.bK,X.clean]
structure KH (x : Se) : Prop where
  CB : mz x.q
  yf : pO x.resp
  CC : bI x.t
structure Rp where
  client : Int
  q : Rq
  resp : cR
  kind : Int
  t : Int
  obj : Ob
  aP : Int
  deriving DecidableEq
@[simp] def sI (m : Md) (a : Rp) : List X:=[.int .i64 a.client,.int .i64 a.q.method,.str ⟨(a.q.path).toArray⟩,.row m 2 ((a.q.fields).map aD),.str ⟨(a.q.body).toArray⟩,.int .i64 a.resp.status,.row m 2 ((a.resp.fields).map aD),.str ⟨(a.resp.body).toArray⟩,.int .i64 a.kind,.int .i64 a.t,.str ⟨(a.obj.path).toArray⟩,.row m 1 ((a.obj.names).map eS),.row m 1 ((a.obj.values).map eS),.int .i64 a.obj.resp.status,.row m 2 ((a.obj.resp.fields).map aD),.str ⟨(a.obj.resp.body).toArray⟩,.int .i64 a.obj.t,.int .i64 a.aP]
@[simp] theorem aaQ (m m' : Md) (l : List Rp) : X.bC m (l.map (sI m')) = l.map (sI m):=by induction l <;> simp_all [X.bC,X.cO,X.md]
@[simp] theorem YV (l : List Rp) : X.clean.aS (l.map (sI .own)) = true:=by induction l <;> simp_all [X.clean.aS,X.clean.bK,X.clean]
@[simp] theorem Y8 (l : List Rp) : X.clean.aS (l.map (sI .sl)) = true:=by induction l <;> simp_all [X.clean.aS,X.clean.bK,X.clean]
structure KG (x : Rp) : Prop where
  Sj : bI x.client
  CB : mz x.q
  yf : pO x.resp
  Hr : bI x.kind
  CC : bI x.t
  Hs : si x.obj
  Hq : bI x.aP
structure Ca where
  iP : Sh
  sS : List Fl
  now : Int
  seen : List Se
  sent : List Rp
  deriving DecidableEq
@[simp] def wF (m : Md) (a : Ca) : List X:=[.row m 1 ((a.iP.bz.cells).map eS),.row m 2 ((a.iP.bz.pending).map eW),.row m 9 ((a.iP.au).map (aQ m)),.row m 4 ((a.iP.aP).map bg),.int .i64 a.iP.next,.int .i64 a.iP.seq,.row m 13 ((a.sS).map (sH m)),.int .i64 a.now,.row m 8 ((a.seen).map (sJ m)),.row m 18 ((a.sent).map (sI m))]
@[simp] theorem aaJ (m m' : Md) (l : List Ca) : X.bC m (l.map (wF m')) = l.map (wF m):=by induction l <;> simp_all [X.bC,X.cO,X.md]
@[simp] theorem YO (l : List Ca) : X.clean.aS (l.map (wF .own)) = true:=by induction l <;> simp_all [X.clean.aS,X.clean.bK,X.clean]
@[simp] theorem Y3 (l : List Ca) : X.clean.aS (l.map (wF .sl)) = true:=by induction l <;> simp_all [X.clean.aS,X.clean.bK,X.clean]
structure Yn (x : Ca) : Prop where
  aav : sj x.iP
  aam : (bL KF) x.sS
  aar : bI x.now
  aat : (bL KH) x.seen
  aau : (bL KG) x.sent
structure De where
  kind : Int
  client : Int
  q : Rq
  a : Int
  resp : cR
  mA : Bn
  keep : List Bool
  deriving DecidableEq
@[simp] def wG (m : Md) (a : De) : List X:=[.int .i64 a.kind,.int .i64 a.client,.int .i64 a.q.method,.str ⟨(a.q.path).toArray⟩,.row m 2 ((a.q.fields).map aD),.str ⟨(a.q.body).toArray⟩,.int .i64 a.a,.int .i64 a.resp.status,.row m 2 ((a.resp.fields).map aD),.str ⟨(a.resp.body).toArray⟩,.int .i64 a.mA.kind,.str ⟨(a.mA.a).toArray⟩,.str ⟨(a.mA.b).toArray⟩,.int .i64 a.mA.t,.row m 1 ((a.keep).map eB)]
@[simp] theorem aaK (m m' : Md) (l : List De) : X.bC m (l.map (wG m')) = l.map (wG m):=by induction l <;> simp_all [X.bC,X.cO,X.md]
@[simp] theorem YP (l : List De) : X.clean.aS (l.map (wG .own)) = true:=by induction l <;> simp_all [X.clean.aS,X.clean.bK,X.clean]
@[simp] theorem Y4 (l : List De) : X.clean.aS (l.map (wG .sl)) = true:=by induction l <;> simp_all [X.clean.aS,X.clean.bK,X.clean]
structure Yo (x : De) : Prop where
  Hr : bI x.kind
  Sj : bI x.client
  CB : mz x.q
  Hp : bI x.a
  yf : pO x.resp
  aal : nT x.mA
  aao : (bL bB) x.keep
theorem Fv {ts : List Ty} {l : List X} (h : di ([.str,.str] ++ ts) l) : ∃ (a : aG) (l' : List X),l = aD a ++ l'∧mw a∧di ts l':=by
  simp only [List.cons_append,List.nil_append] at h
  obtain ⟨y1,r1,rfl,c1,h1⟩:=h.cons
  obtain ⟨a1,rfl,b1⟩:=iT c1
  obtain ⟨y2,r2,rfl,c2,h2⟩:=h1.cons
  obtain ⟨a2,rfl,b2⟩:=iT c2
  exact ⟨⟨a1,a2⟩,r2,by simp,⟨b1,b2⟩,h2⟩
theorem M0 {ts : List Ty} {l : List X} (h : di ([.int .i64,.row [.str,.str],.str] ++ ts) l) : ∃ (a : cR) (l' : List X),l = eO .sl a ++ l'∧pO a∧di ts l':=by
  simp only [List.cons_append,List.nil_append] at h
  obtain ⟨y1,r1,rfl,c1,h1⟩:=h.cons
  obtain ⟨a1,rfl,b1⟩:=j7 c1
  obtain ⟨y2,r2,rfl,c2,h2⟩:=h1.cons
  obtain ⟨a2,rfl,b2⟩:=mH aD mw c2 fun r hr=>by
    obtain ⟨a,l',rfl,h1,h2⟩:=Fv (ts:=[]) (by simpa using hr)
    obtain rfl:=h2.nil
    exact ⟨a,by simp,h1⟩
  obtain ⟨y3,r3,rfl,c3,h3⟩:=h2.cons
  obtain ⟨a3,rfl,b3⟩:=iT c3
  exact ⟨⟨a1,a2,a3⟩,r3,by simp,⟨b1,b2,b3⟩,h3⟩
def UZ : List Ty:=[.int .i64,.str,.row [.str,.str],.str]
theorem MZ {ts : List Ty} {l : List X} (h : di ([.int .i64,.str,.row [.str,.str],.str] ++ ts) l) : ∃ (a : Rq) (l' : List X),l = cw .sl a ++ l'∧mz a∧di ts l':=by
  simp only [List.cons_append,List.nil_append] at h
  obtain ⟨y1,r1,rfl,c1,h1⟩:=h.cons
  obtain ⟨a1,rfl,b1⟩:=j7 c1
  obtain ⟨y2,r2,rfl,c2,h2⟩:=h1.cons
  obtain ⟨a2,rfl,b2⟩:=iT c2
  obtain ⟨y3,r3,rfl,c3,h3⟩:=h2.cons
  obtain ⟨a3,rfl,b3⟩:=mH aD mw c3 fun r hr=>by
    obtain ⟨a,l',rfl,h1,h2⟩:=Fv (ts:=[]) (by simpa using hr)
    obtain rfl:=h2.nil
    exact ⟨a,by simp,h1⟩
  obtain ⟨y4,r4,rfl,c4,h4⟩:=h3.cons
  obtain ⟨a4,rfl,b4⟩:=iT c4
  exact ⟨⟨a1,a2,a3,a4⟩,r4,by simp,⟨b1,b2,b3,b4⟩,h4⟩
theorem Zi {x : X} (h : jW (.agg UZ) x) : ∃ a,x = .agg (cw .sl a)∧mz a:=by
  obtain ⟨l,rfl,hl⟩:=Fu h
  obtain ⟨a,l',rfl,h1,h2⟩:=MZ (ts:=[]) (l:=l) (by rw [List.append_nil]; exact hl)
  obtain rfl:=h2.nil
  exact ⟨a,by simp,h1⟩
theorem MY {ts : List Ty} {l : List X} (h : di ([.str,.row [.str],.row [.str],.int .i64,.row [.str,.str],.str,.int .i64] ++ ts) l) : ∃ (a : Ob) (l' : List X),l = bu .sl a ++ l'∧si a∧di ts l':=by
  simp only [List.cons_append,List.nil_append] at h
  obtain ⟨y1,r1,rfl,c1,h1⟩:=h.cons
  obtain ⟨a1,rfl,b1⟩:=iT c1
  obtain ⟨y2,r2,rfl,c2,h2⟩:=h1.cons
  obtain ⟨a2,rfl,b2⟩:=mH eS bS c2 fun r hr=>by
    obtain ⟨x,r',rfl,h1,h2⟩:=hr.cons
    obtain rfl:=h2.nil
    obtain ⟨s,rfl,hs⟩:=iT h1
    exact ⟨s,rfl,hs⟩
  obtain ⟨y3,r3,rfl,c3,h3⟩:=h2.cons
  obtain ⟨a3,rfl,b3⟩:=mH eS bS c3 fun r hr=>by
    obtain ⟨x,r',rfl,h1,h2⟩:=hr.cons
    obtain rfl:=h2.nil
    obtain ⟨s,rfl,hs⟩:=iT h1
    exact ⟨s,rfl,hs⟩
  obtain ⟨a4,r4,rfl,b4,h4⟩:=M0 (ts:=_) h3
  obtain ⟨y5,r5,rfl,c5,h5⟩:=h4.cons
  obtain ⟨a5,rfl,b5⟩:=j7 c5
  exact ⟨⟨a1,a2,a3,a4,a5⟩,r5,by simp,⟨b1,b2,b3,b4,b5⟩,h5⟩
theorem MX {ts : List Ty} {l : List X} (h : di ([.str,.row [.str],.row [.str],.int .i64,.row [.str,.str],.str,.int .i64,.int .i64,.int .i64] ++ ts) l) : ∃ (a : Kp) (l' : List X),l = aQ .sl a ++ l'∧pN a∧di ts l':=by
  simp only [List.cons_append,List.nil_append] at h
  obtain ⟨a1,r1,rfl,b1,h1⟩:=MY (ts:=_) h
  obtain ⟨y2,r2,rfl,c2,h2⟩:=h1.cons
  obtain ⟨a2,rfl,b2⟩:=j7 c2
  obtain ⟨y3,r3,rfl,c3,h3⟩:=h2.cons
  obtain ⟨a3,rfl,b3⟩:=j7 c3
  exact ⟨⟨a1,a2,a3⟩,r3,by simp,⟨b1,b2,b3⟩,h3⟩
theorem M3 {ts : List Ty} {l : List X} (h : di ([.int .i64,.str] ++ ts) l) : ∃ (a : Wr) (l' : List X),l = eW a ++ l'∧pP a∧di ts l':=by
  simp only [List.cons_append,List.nil_append] at h
  obtain ⟨y1,r1,rfl,c1,h1⟩:=h.cons
  obtain ⟨a1,rfl,b1⟩:=j7 c1
  obtain ⟨y2,r2,rfl,c2,h2⟩:=h1.cons
  obtain ⟨a2,rfl,b2⟩:=iT c2
  exact ⟨⟨a1,a2⟩,r2,by simp,⟨b1,b2⟩,h2⟩
theorem MW {ts : List Ty} {l : List X} (h : di ([.row [.str],.row [.int .i64,.str]] ++ ts) l) : ∃ (a : ew) (l' : List X),l = fR .sl a ++ l'∧Av a∧di ts l':=by
  simp only [List.cons_append,List.nil_append] at h
  obtain ⟨y1,r1,rfl,c1,h1⟩:=h.cons
  obtain ⟨a1,rfl,b1⟩:=mH eS bS c1 fun r hr=>by
    obtain ⟨x,r',rfl,h1,h2⟩:=hr.cons
    obtain rfl:=h2.nil
    obtain ⟨s,rfl,hs⟩:=iT h1
    exact ⟨s,rfl,hs⟩
  obtain ⟨y2,r2,rfl,c2,h2⟩:=h1.cons
  obtain ⟨a2,rfl,b2⟩:=mH eW pP c2 fun r hr=>by
    obtain ⟨a,l',rfl,h1,h2⟩:=M3 (ts:=[]) (by simpa using hr)
    obtain rfl:=h2.nil
    exact ⟨a,by simp,h1⟩
  exact ⟨⟨a1,a2⟩,r2,by simp,⟨b1,b2⟩,h2⟩
theorem MU {ts : List Ty} {l : List X} (h : di ([.int .i64,.str,.str,.int .i64] ++ ts) l) : ∃ (a : Bn) (l' : List X),l = bg a ++ l'∧nT a∧di ts l':=by
  simp only [List.cons_append,List.nil_append] at h
  obtain ⟨y1,r1,rfl,c1,h1⟩:=h.cons
  obtain ⟨a1,rfl,b1⟩:=j7 c1
  obtain ⟨y2,r2,rfl,c2,h2⟩:=h1.cons
  obtain ⟨a2,rfl,b2⟩:=iT c2
  obtain ⟨y3,r3,rfl,c3,h3⟩:=h2.cons
  obtain ⟨a3,rfl,b3⟩:=iT c3
  obtain ⟨y4,r4,rfl,c4,h4⟩:=h3.cons
  obtain ⟨a4,rfl,b4⟩:=j7 c4
  exact ⟨⟨a1,a2,a3,a4⟩,r4,by simp,⟨b1,b2,b3,b4⟩,h4⟩
def U0 : List Ty:=[.row [.str],.row [.int .i64,.str],.row [.str,.row [.str],.row [.str],.int .i64,.row [.str,.str],.str,.int .i64,.int .i64,.int .i64],.row [.int .i64,.str,.str,.int .i64],.int .i64,.int .i64]
theorem M1 {ts : List Ty} {l : List X} (h : di ([.row [.str],.row [.int .i64,.str],.row [.str,.row [.str],.row [.str],.int .i64,.row [.str,.str],.str,.int .i64,.int .i64,.int .i64],.row [.int .i64,.str,.str,.int .i64],.int .i64,.int .i64] ++ ts) l) : ∃ (a : Sh) (l' : List X),l = bk .sl a ++ l'∧sj a∧di ts l':=by
  simp only [List.cons_append,List.nil_append] at h
  obtain ⟨a1,r1,rfl,b1,h1⟩:=MW (ts:=_) h
  obtain ⟨y2,r2,rfl,c2,h2⟩:=h1.cons
  obtain ⟨a2,rfl,b2⟩:=mH (aQ .sl) pN c2 fun r hr=>by
    obtain ⟨a,l',rfl,h1,h2⟩:=MX (ts:=[]) (by simpa using hr)
    obtain rfl:=h2.nil
    exact ⟨a,by simp,h1⟩
  obtain ⟨y3,r3,rfl,c3,h3⟩:=h2.cons
  obtain ⟨a3,rfl,b3⟩:=mH bg nT c3 fun r hr=>by
    obtain ⟨a,l',rfl,h1,h2⟩:=MU (ts:=[]) (by simpa using hr)
    obtain rfl:=h2.nil
    exact ⟨a,by simp,h1⟩
  obtain ⟨y4,r4,rfl,c4,h4⟩:=h3.cons
  obtain ⟨a4,rfl,b4⟩:=j7 c4
  obtain ⟨y5,r5,rfl,c5,h5⟩:=h4.cons
  obtain ⟨a5,rfl,b5⟩:=j7 c5
  exact ⟨⟨a1,a2,a3,a4,a5⟩,r5,by simp,⟨b1,b2,b3,b4,b5⟩,h5⟩
theorem Zj {x : X} (h : jW (.agg U0) x) : ∃ a,x = .agg (bk .sl a)∧sj a:=by
  obtain ⟨l,rfl,hl⟩:=Fu h
  obtain ⟨a,l',rfl,h1,h2⟩:=M1 (ts:=[]) (l:=l) (by rw [List.append_nil]; exact hl)
  obtain rfl:=h2.nil
  exact ⟨a,by simp,h1⟩
end M
set_option linter.unusedVariables false
set_option linter.unusedSimpArgs false
namespace M
open Go
def cL {β : Type} (p : β→Bool) : Nat→List β→Option (Nat×β)
  | _,[]=>none
  | i,b :: l=>if p b = true then some (i,b) else cL p (i + 1) l
theorem sP {β : Type} {p : β→Bool} : ∀ {l : List β} {k i : Nat} {b : β},cL p k l = some (i,b)→k≤i∧l[i - k]? = some b∧p b = true
  | b' :: l,k,i,b,h=>by
    unfold cL at h
    split at h
    · rename_i hp
      cases h
      exact ⟨Nat.le_refl _,by simp,hp⟩
    · obtain ⟨h1,h2,h3⟩:=sP h
      refine ⟨by omega,?_,h3⟩
      rw [show i - k = (i - (k + 1)) + 1 by omega,List.getElem?_cons_succ]
      exact h2
theorem F7 {β : Type} {p : β→Bool} : ∀ {l : List β} {k : Nat},cL p k l = none↔∀ b∈l,¬ p b = true
  | [],k=>by simp [cL]
  | b' :: l,k=>by
    unfold cL
    by_cases hp : p b' = true
    · simp [hp]
    · rw [if_neg hp,F7]
      simp [hp]
theorem qW {xt : Nat} {β : Type} {f : ag→bN} (l : List β) (st : Nat→ag) (p : β→Bool) (R : Nat→β→ag) (E : ag)
    (h : ∀ i b,l[i]? = some b→i < l.length→f (st i) = if p b = true then some (.ret,R i b) else some (.normal,st (i + 1)))
    (hend : f (st l.length) = some (.exit xt,E)) :
    aJ f (st 0) = (cL p 0 l).elim (some (.exit xt,E)) fun x=>some (.ret,R x.1 x.2):=by
  suffices H : ∀ (r : List β) (i : Nat),l.drop i = r→i≤l.length→aJ f (st i) = (cL p i r).elim (some (.exit xt,E)) fun x=>some (.ret,R x.1 x.2) from H l 0 rfl (Nat.zero_le _)
  intro r
  induction r with
  | nil =>
    intro i hr hi
    have : i = l.length:=by
      have:=congrArg List.length hr
      simp at this
      omega
    subst this
    rw [gE,hend]
    rfl
  | cons b r ih =>
    intro i hr hi
    have hb : l[i]? = some b:=by
      have:=congrArg (fun t : List β=>t[0]?) hr
      simpa using this
    have hlt : i < l.length:=(List.getElem?_eq_some_iff.1 hb).1
    have hd : l.drop (i + 1) = r:=by
      have:=congrArg List.tail hr
      simpa using this
    rw [gE,h i b hb hlt]
    unfold cL
    by_cases hp : p b = true
    · simp [hp,lv]
    · simp only [hp]
      exact ih (i + 1) hd hlt
theorem uF {xt : Nat} {β γ : Type} {f : ag→bN} (l : List β) (φ : β→List γ) (st : Nat→List γ→ag) (E : List γ→ag)
    (h : ∀ i b out,l[i]? = some b→i < l.length→out = (l.take i).flatMap φ→f (st i out) = some (.normal,st (i + 1) (out ++ φ b)))
    (hend : ∀ out,out = l.flatMap φ→f (st l.length out) = some (.exit xt,E out)) :
    aJ f (st 0 []) = some (.exit xt,E (l.flatMap φ)):=by
  suffices H : ∀ (k i : Nat),i + k = l.length→aJ f (st i ((l.take i).flatMap φ)) = some (.exit xt,E (l.flatMap φ)) from H l.length 0 (by omega)
  intro k
  induction k with
  | zero =>
    intro i hi
    obtain rfl : i = l.length:=by omega
    rw [List.take_length,gE,hend _ rfl]
    rfl
  | succ k ih =>
    intro i hi
    have hlt : i < l.length:=by omega
    rw [gE,h i l[i] _ (List.getElem?_eq_getElem hlt) hlt rfl]
    have : (l.take i).flatMap φ ++ φ l[i] = (l.take (i + 1)).flatMap φ:=by
      rw [List.take_succ_eq_append_getElem hlt,List.flatMap_append]
      simp
    simp only [this]
    exact ih (i + 1) (by omega)
theorem sQ {β γ : Type} (g : β→γ) (l : List β) : l.flatMap (fun b=>[g b]) = l.map g:=by induction l <;> simp_all
theorem wV {β γ : Type} (g : β→γ) (l : List β) (i : Nat) (h : i≤l.length) : ((l.take i).flatMap (fun b=>[g b])).length = i:=by rw [sQ]; simp; omega
end M
set_option linter.unusedVariables false
set_option linter.unusedSimpArgs false
namespace M
open Go
def jK (b : UInt8) : UInt8:=if 65≤b.toNat∧b.toNat≤90 then b + 32 else b
def bF (s : ah) : ah:=s.map jK
def pF (b : UInt8) : Bool:=decide ((97≤b.toNat∧b.toNat≤122)∨(48≤b.toNat∧b.toNat≤57)∨b.toNat = 45)
def eX (s : ah) : Bool:=aO pF s && decide (1≤(s.length : Int)∧(s.length : Int)≤20)
def gI (lo : Nat) (b : UInt8) : Bool:=decide (lo≤b.toNat∧b.toNat≤126)
def dS (s : ah) : ah:=Lib.trimB s 32
def ia (s : ah) : Bool:=aO (gI 32) s && decide (1≤(s.length : Int)∧(s.length : Int)≤60) && decide (dS s = s)
def oM (n : Int) : ah:=if 0≤n∧n≤1000000 then cS n.toNat else []
def e9 (b : UInt8) : Bool:=decide (48≤b.toNat∧b.toNat≤57)
def gZ (s : ah) : Nat:=s.foldl (fun x b=>10 * x + b.toNat - 48) 0
def cz (s : ah) : Option Nat:=if gZ s≤1000000∧cS (gZ s) = s then some (gZ s) else none
def gG (s : ah) : Bool:=aO (gI 33) s && decide (1≤(s.length : Int)∧(s.length : Int)≤60) && decide (s[0]?.map (fun b : UInt8=>(b.toNat : Int)) = some 47)
theorem Bb {α : Type} (p : α→Bool) : ∀ (a b : List α),(∃ x∈a,p x = false)→(a ++ b).dropWhile p = a.dropWhile p ++ b
  | [],b,h=>by simp at h
  | x :: a,b,h=>by
    simp only [List.cons_append,List.dropWhile_cons]
    by_cases hx : p x = true
    · simp only [hx,if_true]
      refine Bb p a b ?_
      obtain ⟨y,hy,hp⟩:=h
      rcases List.mem_cons.1 hy with rfl | hy
      · rw [hx] at hp; cases hp
      · exact ⟨y,hy,hp⟩
    · simp [hx]
theorem Ba {α : Type} (p : α→Bool) : ∀ (a : List α),(∀ x∈a,p x = true)→a.dropWhile p = []
  | [],_=>rfl
  | x :: a,h=>by
    rw [List.dropWhile_cons,if_pos (h x (List.mem_cons_self ..))]
    exact Ba p a fun y hy=>h y (List.mem_cons_of_mem _ hy)
theorem Bc {α : Type} (p : α→Bool) : ∀ {a : List α} {x : α},x∈a→p x = false→x∈a.dropWhile p
  | y :: a,x,h,hp=>by
    rw [List.dropWhile_cons]
    by_cases hy : p y = true
    · rw [if_pos hy]
      rcases List.mem_cons.1 h with rfl | h
      · rw [hy] at hp; cases hp
      · exact Bc p h hp
    · rw [if_neg hy]; exact h
theorem FA {α : Type} (p : α→Bool) (l : List α) : ∃ a,l = a ++ l.dropWhile p∧∀ x∈a,p x = true:=by
  refine ⟨l.takeWhile p,(List.takeWhile_append_dropWhile).symm,fun x hx=>?_⟩
  have:=List.all_takeWhile (l:=l) (p:=p)
  exact List.all_eq_true.1 this x hx
theorem XT (p : UInt8→Bool) (l : List UInt8) : (l.reverse.dropWhile p).reverse.dropWhile p = ((l.dropWhile p).reverse.dropWhile p).reverse:=by
  by_cases h : ∃ x∈l,p x = false
  · obtain ⟨x,hx,hp⟩:=h
    obtain ⟨a,e1,h1⟩:=FA p l
    have hm : x∈l.dropWhile p:=Bc p hx hp
    have e2 : l.reverse.dropWhile p = (l.dropWhile p).reverse.dropWhile p ++ a.reverse:=by
      conv=>lhs; rw [e1,List.reverse_append]
      exact Bb p _ _ ⟨x,by simpa using hm,hp⟩
    rw [e2,List.reverse_append,List.reverse_reverse]
    obtain ⟨b,e3,h3⟩:=FA p (l.dropWhile p).reverse
    generalize hd : (l.dropWhile p).reverse.dropWhile p = d at e3 ⊢
    have Rd : ∃ y∈d,p y = false:=⟨x,by rw [← hd]; exact Bc p (by simpa using hm) hp,hp⟩
    have e4 : l.dropWhile p = d.reverse ++ b.reverse:=by
      have:=congrArg List.reverse e3
      simpa using this
    have e5 : (a ++ d.reverse).dropWhile p = d.reverse.dropWhile p:=by
      clear e1 e2 e3 hm
      induction a with
      | nil=>rfl
      | cons y a ih =>
        rw [List.cons_append,List.dropWhile_cons,if_pos (h1 y (List.mem_cons_self ..))]
        exact ih fun z hz=>h1 z (List.mem_cons_of_mem _ hz)
    rw [e5]
    have e6 : (l.dropWhile p).dropWhile p = l.dropWhile p:=by
      have : ∀ l : List UInt8,(l.dropWhile p).dropWhile p = l.dropWhile p:=by
        intro l
        induction l with
        | nil=>rfl
        | cons y l ih =>
          rw [List.dropWhile_cons]
          by_cases hy : p y = true
          · rw [if_pos hy]; exact ih
          · rw [if_neg hy,List.dropWhile_cons,if_neg hy]
      exact this l
    rw [e4] at e6
    rw [Bb p d.reverse b.reverse (by obtain ⟨y,hy,hp⟩:=Rd; exact ⟨y,by simpa using hy,hp⟩)] at e6
    exact List.append_cancel_right e6
  · have h1 : ∀ x∈l,p x = true:=fun x hx=>by
      cases hp : p x with
      | true=>rfl
      | false=>exact absurd ⟨x,hx,hp⟩ h
    rw [Ba p l h1,Ba p l.reverse (fun x hx=>h1 x (by simpa using hx))]
    rfl
theorem XS (s : ah) : dS s = Lib.trimRightB (Lib.trimLeftB s 32) 32:=XT _ s
theorem IQ (s : ah) : (dS s).length≤s.length:=by
  unfold dS Lib.trimB Lib.trimLeftB Lib.trimRightB
  have h1:=(List.dropWhile_sublist (l:=(List.dropWhile (fun x=>x == 32) s.reverse).reverse) (fun x=>x == (32 : UInt8))).length_le
  have h2:=(List.dropWhile_sublist (l:=s.reverse) (fun x=>x == (32 : UInt8))).length_le
  simp only [List.length_reverse] at h1 h2
  omega
theorem Qy {α β : Type} (f : β→α→β) (l : List α) (a : α) (b : β) : (l ++ [a]).foldl f b = f (l.foldl f b) a:=by simp
theorem A6 (n : Nat) : cS n≠[]:=by
  intro h
  have : (cS n).length = Lib.nDigits n:=Lib.decDigits_length n
  rw [h] at this
  have h2:=Lib.nDigits_pos n
  rw [← this] at h2
  simp at h2
theorem A8 (n : Nat) (h : ¬ n < 10) : cS n = cS (n / 10) ++ [UInt8.ofNat (48 + n % 10)]:=by
  unfold cS
  rw [Lib.decDigits,dif_neg h]
theorem A7 (n : Nat) (h : n < 10) : cS n = [UInt8.ofNat (48 + n)]:=by
  unfold cS
  rw [Lib.decDigits,dif_pos h]
theorem pY (k : Nat) (h : k < 10) : (UInt8.ofNat (48 + k)).toNat = 48 + k:=by
  rw [UInt8.toNat_ofNat']
  omega
theorem I2 : ∀ n : Nat,gZ (cS n) = n:=by
  intro n
  induction n using Nat.strongRecOn with
  | ind n ih =>
    by_cases h : n < 10
    · rw [A7 n h]
      simp only [gZ,List.foldl_cons,List.foldl_nil,pY n h]
      omega
    · rw [A8 n h]
      have:=ih (n / 10) (by omega)
      unfold gZ at this ⊢
      rw [Qy,this,pY _ (by omega)]
      omega
theorem Fy : ∀ n : Nat,aO e9 (cS n) = true:=by
  intro n
  induction n using Nat.strongRecOn with
  | ind n ih =>
    rw [kS]
    by_cases h : n < 10
    · rw [A7 n h]
      intro x hx
      rw [List.mem_singleton.1 hx]
      unfold e9
      rw [pY n h]
      simp; omega
    · rw [A8 n h]
      intro x hx
      rcases List.mem_append.1 hx with hx | hx
      · exact kS.1 (ih _ (by omega)) x hx
      · rw [List.mem_singleton.1 hx]
        unfold e9
        rw [pY _ (by omega)]
        simp; omega
theorem rj {s : ah} {n : Nat} : cz s = some n↔n≤1000000∧cS n = s:=by
  unfold cz
  constructor
  · intro h
    split at h
    · rename_i hc
      cases h
      exact hc
    · cases h
  · rintro ⟨h1,rfl⟩
    rw [I2,if_pos ⟨h1,rfl⟩]
theorem Ni (n : Nat) (h : n≤1000000) : (cS n).length≤7:=Nh 6 n (by omega)
theorem Tc (n : Nat) (h : n≤1000000) : oM (n : Int) = cS n:=by
  unfold oM
  rw [if_pos (by omega)]
  rfl
theorem Ta (s : ah) (h : s.length≤7) : cz s = if s≠[]∧aO e9 s = true∧oM (gZ s) = s then some (gZ s) else none:=by
  cases hr : cz s with
  | some n =>
    obtain ⟨h1,rfl⟩:=rj.1 hr
    rw [I2,if_pos ⟨A6 n,Fy n,Tc n h1⟩]
  | none =>
    rw [if_neg]
    rintro ⟨h1,h2,h3⟩
    have : cz s = some (gZ s):=by
      refine rj.2 ?_
      unfold oM at h3
      split at h3
      · rename_i hc
        exact ⟨by omega,h3⟩
      · exact absurd h3.symm h1
    rw [this] at hr
    cases hr
theorem T8 : ∀ (n acc : Nat) (l : List UInt8),acc * 10 ^ Lib.nDigits n + n < 10000000000→Lib.parseUint10 acc (cS n ++ l) = Lib.parseUint10 (acc * 10 ^ Lib.nDigits n + n) l:=by
  intro n
  induction n using Nat.strongRecOn with
  | ind n ih =>
    intro acc l hn
    by_cases h : n < 10
    · rw [A7 n h]
      simp only [List.cons_append,List.nil_append,Lib.parseUint10,pY n h]
      rw [Lib.nDigits_small h] at hn ⊢
      rw [if_pos (by omega),if_neg (by omega),if_neg (by omega)]
      congr 1
      omega
    · rw [A8 n h,List.append_assoc]
      have e:=Lib.nDigits_big h
      rw [e,Nat.pow_succ] at hn ⊢
      have hm : acc * (10 ^ Lib.nDigits (n / 10) * 10) = acc * 10 ^ Lib.nDigits (n / 10) * 10:=by rw [Nat.mul_assoc]
      rw [hm] at hn ⊢
      rw [ih (n / 10) (by omega) acc _ (by omega)]
      have hd:=pY (n % 10) (by omega)
      simp only [List.cons_append,List.nil_append,Lib.parseUint10,hd]
      rw [if_pos (by omega),if_neg (by omega),if_neg (by omega)]
      congr 1
      omega
theorem EF (n : Nat) (h : n≤1000000) : Lib.atoiAll (cS n) = .ok (n : Int):=by
  cases hd : cS n with
  | nil=>exact absurd hd (A6 n)
  | cons c r =>
    have hc:=kS.1 (Fy n) c (by rw [hd]; exact List.mem_cons_self ..)
    simp only [e9,decide_eq_true_eq] at hc
    rw [Lib.atoiAll_plain c r (by omega) (by omega),← hd]
    unfold Lib.parseMag
    rw [if_neg (A6 n)]
    have:=T8 n 0 [] (by omega)
    rw [List.append_nil] at this
    rw [this]
    simp only [Lib.parseUint10,Lib.signless]
    rw [if_neg (by omega)]
    simp
theorem S9 (s : ah) (n : Int) (h : Lib.atoiAll s = .ok n) : (if 0≤n∧n≤1000000∧Lib.itoa n = s then some n.toNat else none) = cz s:=by
  split
  · rename_i hc
    symm
    refine rj.2 ⟨by omega,?_⟩
    rw [← Hl,← hc.2.2]
    congr 1
    omega
  · rename_i hc
    cases hr : cz s with
    | none=>rfl
    | some m =>
      obtain ⟨h1,rfl⟩:=rj.1 hr
      rw [EF m h1] at h
      obtain rfl : (m : Int) = n:=by injection h
      exact absurd ⟨by omega,by omega,Hl m⟩ hc
theorem Tb (s : ah) (h : ∀ n,Lib.atoiAll s≠.ok n) : cz s = none:=by
  cases hr : cz s with
  | none=>rfl
  | some m =>
    obtain ⟨h1,rfl⟩:=rj.1 hr
    exact absurd (EF m h1) (h m)
theorem HK (s : ah) (h : 7 < s.length) : cz s = none:=by
  cases hr : cz s with
  | none=>rfl
  | some m =>
    obtain ⟨h1,rfl⟩:=rj.1 hr
    have:=Ni m h1
    omega
def cA (c : UInt8) : ah→List ah
  | []=>[[]]
  | b :: s=>if b = c then [] :: cA c s else match cA c s with
    | w :: ws=>(b :: w) :: ws
    | []=>[[b]]
theorem IB (c : UInt8) (s : ah) : cA c s≠[]:=by
  cases s with
  | nil=>simp [cA]
  | cons b s =>
    unfold cA
    split
    · simp
    · split <;> simp
def eY (s : ah) : List ah:=((cA 44 s).map dS).filter fun w=>decide (w≠[])
end M
set_option linter.unusedVariables false
set_option linter.unusedSimpArgs false
namespace M
open Go Go.RowKit
def gJ (w w' : World) (c : C) : Prop:=(∀ Z,c.ok w' Z)∧c.bare∧∀ b k,c.fp b k→w.heap.size≤b
theorem Kq [Bs] {P : Program} {f : FuncId} {xs : List X} {r : X}
    (h : ∀ w zl zb cs,cs.map C.er = xs→js w zl zb cs→mg w→Calls P f (cs.map C.val).toArray w fun e w'=>∃ c : C,e = .returned c.val∧c.er = r∧Below w.heap.size w w'∧gJ w w' c) :
    AC P f xs fun r' ps=>r' = r∧ps = xs.map fun _=>.dead:=by
  intro w zl zb cs e hA gT
  refine (h w zl zb cs e hA fun b hb=>(gT b hb).1).mono fun e' w' ⟨c,he,hc,hb,c1,c2,c3⟩=>?_
  have BN : Ext (fun b k=>∃ x∈cs,x.fp b k) w w':=⟨hb.os,hb.tape,hb.output,hb.size,fun b hl=>.inl (hb.block b hl)⟩
  refine ⟨c,cs.map fun x=>.dead x.val,zl,⟨he,by rw [List.map_map]; rfl,BN,⟨fun x hx'=>?_,fun x hx'=>?_,fun x hx' b k hf=>?_,fun b k hz=>Nat.lt_of_lt_of_le (hA.bJ b k (hz.imp id fun h=>h.elim)) hb.size,?_⟩,fun x hx' b k hf=>?_,fun _ _ h=>h,fun _ _ h=>.inl h⟩,hc,?_⟩
  · rcases List.mem_cons.1 hx' with rfl | hx'
    · exact c1 _
    · obtain ⟨y,_,rfl⟩:=List.mem_map.1 hx'; trivial
  · rcases List.mem_cons.1 hx' with rfl | hx'
    · exact c2
    · obtain ⟨y,_,rfl⟩:=List.mem_map.1 hx'; trivial
  · rcases List.mem_cons.1 hx' with rfl | hx'
    · have h1:=c3 b k hf
      exact ⟨fun hz=>by have:=hA.bJ b k (.inl hz); omega,fun hz=>hz⟩
    · obtain ⟨y,_,rfl⟩:=List.mem_map.1 hx'; exact hf.elim
  · refine List.pairwise_cons.2 ⟨fun x hx b k hf hf'=>?_,?_⟩
    · obtain ⟨y,_,rfl⟩:=List.mem_map.1 hx; exact hf'
    · refine List.pairwise_iff_getElem.2 fun i j hi hj _ b k hf=>?_
      obtain ⟨y,_,hy⟩:=List.mem_map.1 (List.getElem_mem hi)
      rw [← hy] at hf
      exact hf.elim
  · rcases List.mem_cons.1 hx' with rfl | hx'
    · exact .inr (c3 b k hf)
    · obtain ⟨y,_,rfl⟩:=List.mem_map.1 hx'; exact hf.elim
  · rw [← e]
    simp [List.map_map,Function.comp_def,C.er]
def dw (f0 : FuncId) (g : List X→Option X) : bD:=fun f xs=>if f = f0 then (match g xs with
  | some r=>some (r,xs.map fun _=>.dead)
  | none=>none) else none
theorem uN [Bs] {P : Program} {f0 : FuncId} {g : List X→Option X}
    (h : ∀ xs r,g xs = some r→∀ w zl zb cs,cs.map C.er = xs→js w zl zb cs→mg w→Calls P f0 (cs.map C.val).toArray w fun e w'=>∃ c : C,e = .returned c.val∧c.er = r∧Below w.heap.size w w'∧gJ w w' c) : (dw f0 g).Sound P:=fun f xs o e=>by
  unfold dw at e
  split at e
  · rename_i hf
    subst hf
    split at e
    · rename_i r hr
      cases e
      exact Kq (h xs r hr)
    · cases e
  · cases e
theorem iV {c : C} {s : ByteArray} (h : c.er = .str s) : c = .str s:=by cases c <;> simp [C.er] at h; rw [h]
theorem kY {c : C} {k : IntKind} {n : Int} (h : c.er = .int k n) : c = .int k n:=by cases c <;> simp [C.er] at h; rw [h.1,h.2]
theorem FQ {c : C} {b : Bool} (h : c.er = .bool b) : c = .bool b:=by cases c <;> simp [C.er] at h; rw [h]
theorem map_nil {l : List C} (h : l.map C.er = []) : l = []:=by simpa using h
theorem map_cons {l : List C} {x : X} {xs : List X} (h : l.map C.er = x :: xs) : ∃ c cs,l = c :: cs∧c.er = x∧cs.map C.er = xs:=by
  cases l with
  | nil=>simp at h
  | cons c cs=>simp at h; exact ⟨c,cs,rfl,h.1,h.2⟩
theorem Ge {w w' : World} {s : ByteArray} (h : s.size≤9223372036854775807) : gJ w w' (.str s):=⟨fun _=>h,trivial,fun _ _ h=>h.elim⟩
theorem Qz {w w' : World} {k : IntKind} {n : Int} : gJ w w' (.int k n):=⟨fun _=>trivial,trivial,fun _ _ h=>h.elim⟩
theorem Bt {w w' : World} {b : Bool} : gJ w w' (.bool b):=⟨fun _=>trivial,trivial,fun _ _ h=>h.elim⟩
def jq (l : List C) : C:=.ak l.length fun j=>l.getD j (.dead undef)
theorem DA {α β : Type} (l : List α) (d : α) (g : α→β) : ((List.range l.length).map fun j=>g (l.getD j d)) = l.map g:=by
  apply List.ext_getElem
  · simp
  · intro i h1 h2
    simp at h1
    simp [h1]
theorem IV (l : List C) : (jq l).er = .ak (l.map C.er):=by
  show X.ak _ = _
  rw [DA l _ C.er]
theorem IW (l : List C) : (jq l).val = .tuple (l.map C.val).toArray:=by
  show Value.tuple _ = _
  rw [DA l _ C.val]
theorem Gf {w w' : World} {l : List C} (h : ∀ c∈l,gJ w w' c∧c.dJ∧∀ b k,¬ c.fp b k) : gJ w w' (jq l):=by
  have hm : ∀ j,j < l.length→l.getD j (.dead undef)∈l:=fun j hj=>by simp [List.getD,hj]
  refine ⟨fun Z=>⟨fun j hj=>⟨(h _ (hm j hj)).2.1,(h _ (hm j hj)).1.1 Z⟩,fun j hj b k hf=>((h _ (hm j hj)).2.2 b k hf).elim⟩,fun j hj=>(h _ (hm j hj)).1.2.1,fun b k hf=>?_⟩
  obtain ⟨j,hj,hf⟩:=hf
  exact ((h _ (hm j hj)).2.2 b k hf).elim
theorem QA {w w' : World} {g : Nat} {t : TypeId} {l : List ByteArray} (hg : w.heap.size≤g) (hb : w'.heap[g]? = some (.cells (l.map Value.string).toArray t (0,0))) (hs : ∀ s∈l,s.size≤9223372036854775807) :
    gJ w w' (.row .own 1 (some (g,0,none)) l.length l.length fun i _=>.str (l.getD i ByteArray.empty)):=by
  have hm : ∀ j,j < l.length→l.getD j ByteArray.empty∈l:=fun j hj=>by simp [List.getD,hj]
  refine ⟨fun Z=>⟨Nat.le_refl _,fun i j hi hj=>⟨g,0,rfl,?_,fun h=>absurd rfl h⟩,fun i j hi hj=>⟨trivial,trivial,trivial,hs _ (hm i hi)⟩,fun _=>.inr ⟨g,0,_,t,(0,0),rfl,hb,?_,fun k _ _=>?_⟩,fun i j hi hj b k hf=>hf.elim⟩,trivial,fun b k hf=>?_⟩
  · obtain rfl : j = 0:=by omega
    simp only [World.cell?,hb]
    simp [C.val,hi,Go.Value.oneCell']
  · simp
  · simp [World.frozen?,hb]
  · obtain ⟨_,h | ⟨i,j,_,_,h⟩⟩:=hf
    · obtain ⟨o,h⟩:=h
      have hgb:=congrArg Prod.fst (Option.some.inj h)
      have hgb : g = b:=hgb; exact hgb ▸ hg
    · exact h.elim
theorem Uv (l : List ByteArray) (g cap : Nat) : (C.row .own 1 (some (g,0,none)) l.length cap fun i _=>.str (l.getD i ByteArray.empty)).er = .row .own 1 (l.map fun s=>[.str s]):=by
  show X.row _ _ _ = _
  congr 1
  have:=DA l ByteArray.empty fun s=>[X.str s]
  rw [← this]
  rfl
theorem sL {c : C} {m : Md} {z : Nat} {xs : List (List X)} (h : c.er = .row m z xs) : ∃ A len cap e,c = .row m z A len cap e∧len = xs.length∧∀ i,i < len→xs[i]? = some ((List.range z).map fun j=>(e i j).er):=by
  cases c with
  | row m' z' A len cap e =>
    simp only [C.er,X.row.injEq] at h
    obtain ⟨rfl,rfl,h⟩:=h
    refine ⟨A,len,cap,e,rfl,by rw [← h]; simp,fun i hi=>?_⟩
    rw [← h]
    simp [hi]
  | _=>simp [C.er] at h
end M
set_option linter.unusedVariables false
set_option linter.unusedSimpArgs false
namespace M
open Go
def zX (s : ah) : X:=.str ⟨s.toArray⟩
def DH (l : List ah) : X:=.row .own 1 (l.map eS)
def Ae : List X→Option X
  | [.str s,.str c]=>if c.data.toList = [32]∧s.size≤9223372036854775807 then some (zX (dS s.data.toList)) else none
  | _=>none
def zV : List X→Option X
  | [.str s,.str c]=>if s.size < 4294967281∧1≤c.size then some (DH (Lib.split s.data.toList c.data.toList)) else none
  | _=>none
def xd : List X→Option X
  | [.str s,.str c]=>some (.bool (Lib.hasPrefix s.data.toList c.data.toList))
  | _=>none
def wC : List X→Option X
  | [.str s,.str c]=>if s.size≤9223372036854775807 then some (.ak [zX (Lib.trimPrefix s.data.toList c.data.toList),.bool (Lib.hasPrefix s.data.toList c.data.toList)]) else none
  | _=>none
def zf : List X→Option X
  | [.str s]=>if s.size≤9223372036854775807 then some (match cz s.data.toList with
    | some n=>.ak [.int .i64 n,.bool true]
    | none=>.ak [.int .i64 0,.bool false]) else none
  | _=>none
theorem count_nil (c : UInt8) : Lib.count [] [c] = 0:=by rw [Lib.count_one]; rfl
theorem UQ (c : UInt8) : ∀ s : ah,Lib.split s [c] = cA c s:=by
  have key : ∀ (n : Nat) (s : ah),s.length≤n→Lib.splitK [c] 0 (Lib.count s [c]) s = cA c s:=by
    intro n
    induction n with
    | zero =>
      intro s hs
      obtain rfl : s = []:=List.length_eq_zero_iff.1 (by omega)
      rw [count_nil]
      rfl
    | succ n ih =>
      intro s hs
      cases s with
      | nil=>rw [count_nil]; rfl
      | cons b s =>
        simp at hs
        have yc:=ih s (by omega)
        by_cases hb : b = c
        · subst hb
          rw [Lib.count_cons_eq,Nat.add_comm]
          have hi : Lib.index (b :: s) [b] = 0:=Lib.index_first (i:=0) (Nat.zero_le _) (by simp [Lib.occAt]) (fun _ h=>absurd h (Nat.not_lt_zero _))
          simp only [Lib.splitK,hi,cA]
          simp [yc]
        · rw [Lib.count_cons_ne _ _ _ hb]
          have hnext : Lib.index (b :: s) [c] = if Lib.index s [c] = -1 then -1 else Lib.index s [c] + 1:=by
            have h:=Lib.index_drop (s:=b :: s) (sub:=[c]) (i:=1) (fun j hj=>by
              obtain rfl : j = 0:=by omega
              simp [Lib.occAt,List.isPrefixOf,Ne.symm hb]) (by simp)
            simp at h
            exact h
          rw [cA,if_neg hb,← yc]
          cases hk : Lib.count s [c] with
          | zero=>simp [Lib.splitK]
          | succ k =>
            simp only [Lib.splitK,hnext]
            by_cases h1 : Lib.index s [c] = -1
            · simp [h1]
            · have h0 : 0≤Lib.index s [c]:=by
                have : -1≤Lib.index s [c]:=Lib.index_ge _ _
                omega
              have h2 : ¬ Lib.index s [c] + 1 = -1:=by omega
              have h3 : (Lib.index s [c] + 1).toNat = (Lib.index s [c]).toNat + 1:=by omega
              simp [h1,h2,h3]
  intro s
  exact key s.length s (Nat.le_refl _)
end M
set_option linter.unusedVariables false
set_option linter.unusedSimpArgs false
namespace M
open Go
def cQ {β : Type} (p : β→Bool) (l : List β) : Nat:=(l.takeWhile fun b=>!p b).length
theorem HB {β : Type} {f : ag→bN} (l : List β) (st : Nat→ag) (p : β→Bool) (E : Nat→ag) {x : Nat}
    (h : ∀ i b,l[i]? = some b→i < l.length→f (st i) = if p b = true then some (.exit x,E i) else some (.normal,st (i + 1)))
    (hend : f (st l.length) = some (.exit x,E l.length)) : aJ f (st 0) = some (.exit x,E (cQ p l)):=by
  suffices H : ∀ (r : List β) (i : Nat),l.drop i = r→i≤l.length→aJ f (st i) = some (.exit x,E (i + cQ p r)) by
    have:=H l 0 rfl (Nat.zero_le _)
    rwa [Nat.zero_add] at this
  intro r
  induction r with
  | nil =>
    intro i hr hi
    have : i = l.length:=by
      have:=congrArg List.length hr
      simp at this
      omega
    subst this
    rw [gE,hend]
    rfl
  | cons b r ih =>
    intro i hr hi
    have hb : l[i]? = some b:=by
      have:=congrArg (fun t : List β=>t[0]?) hr
      simpa using this
    have hlt : i < l.length:=(List.getElem?_eq_some_iff.1 hb).1
    have hd : l.drop (i + 1) = r:=by
      have:=congrArg List.tail hr
      simpa using this
    rw [gE,h i b hb hlt]
    unfold cQ
    by_cases hp : p b = true
    · simp [hp,dD]
    · have:=ih (i + 1) hd hlt
      simp only [hp]
      have e : i + 1 + cQ p r = i + (cQ p r + 1):=by omega
      rw [e] at this
      simp [hp,dD,this,cQ]
theorem Ai {β : Type} (p : β→Bool) (l : List β) : cQ p l≤l.length:=by
  unfold cQ
  exact (List.takeWhile_sublist _).length_le
theorem I1 {β : Type} (p : β→Bool) : ∀ (l : List β) (j : Nat) (b : β),j < cQ p l→l[j]? = some b→p b = false
  | [],j,b,h,_=>by simp [cQ] at h
  | a :: l,j,b,h,hb=>by
    unfold cQ at h
    rw [List.takeWhile_cons] at h
    by_cases hp : p a = true
    · simp [hp] at h
    · simp only [hp,Bool.not_false,if_true,List.length_cons] at h
      cases j with
      | zero=>simp at hb; subst hb; simpa using hp
      | succ j=>exact I1 p l j b (by unfold cQ; omega) (by simpa using hb)
theorem I0 {β : Type} (p : β→Bool) : ∀ (l : List β) (b : β),l[cQ p l]? = some b→p b = true
  | [],b,h=>by simp at h
  | a :: l,b,h=>by
    unfold cQ at h
    rw [List.takeWhile_cons] at h
    by_cases hp : p a = true
    · simp [hp] at h; subst h; exact hp
    · simp only [hp,Bool.not_false,if_true,List.length_cons,List.getElem?_cons_succ] at h
      exact I0 p l b h
def fU (c : UInt8) (f : ah→List ah) (s : ah) (i : Nat) (g : List ah×Nat) (b : Option UInt8) : List ah×Nat:=match b with
  | some b=>if b = c then (g.1 ++ f ((s.take i).drop g.2),i + 1) else g
  | none=>(g.1 ++ f ((s.take i).drop g.2),i + 1)
theorem D8 (c : UInt8) : ∀ (cur rest : ah),(∀ b∈cur,b≠c)→cA c (cur ++ rest) = match cA c rest with
    | w :: ws=>(cur ++ w) :: ws
    | []=>[cur]
  | [],rest,_=>by
    cases h : cA c rest with
    | nil=>exact absurd h (IB c rest)
    | cons w ws=>simpa using h
  | a :: cur,rest,h=>by
    rw [List.cons_append,cA,if_neg (h a (List.mem_cons_self ..)),D8 c cur rest fun b hb=>h b (List.mem_cons_of_mem _ hb)]
    cases cA c rest <;> simp
theorem UO (c : UInt8) (cur : ah) (h : ∀ b∈cur,b≠c) : cA c cur = [cur]:=by
  have:=D8 c cur [] h
  simpa [cA] using this
theorem Ed : ∀ (p cur rest : ah),((p ++ (cur ++ rest)).take (p.length + cur.length)).drop p.length = cur
  | [],cur,rest=>by simp
  | a :: p,cur,rest=>by
    have:=Ed p cur rest
    simp only [List.length_cons,List.cons_append,show p.length + 1 + cur.length = p.length + cur.length + 1 by omega,List.take_succ_cons,List.drop_succ_cons]
    exact this
theorem Qx (c : UInt8) (f : ah→List ah) (s : ah) : foldI (fU c f s) 0 (s.map some ++ [none]) ([],0) = ((cA c s).flatMap f,s.length + 1):=by
  suffices H : ∀ (rest p cur : ah) (out : List ah),s = p ++ cur ++ rest→(∀ b∈cur,b≠c)→foldI (fU c f s) (p.length + cur.length) (rest.map some ++ [none]) (out,p.length) = (out ++ (cA c (cur ++ rest)).flatMap f,s.length + 1) by
    have:=H s [] [] [] rfl (by simp)
    simpa using this
  intro rest
  induction rest with
  | nil =>
    intro p cur out hs hc
    simp only [List.append_nil] at hs ⊢
    rw [UO c cur hc]
    subst hs
    have e1:=Ed p cur []
    rw [List.append_nil] at e1
    simp [foldI,fU,e1]
  | cons b rest ih =>
    intro p cur out hs hc
    simp only [List.map_cons,List.cons_append,foldI]
    by_cases hb : b = c
    · subst hb
      have e1 : (s.take (p.length + cur.length)).drop p.length = cur:=by subst hs; have:=Ed p cur (b :: rest); rwa [← List.append_assoc] at this
      have:=ih (p ++ cur ++ [b]) [] (out ++ f cur) (by simp [hs]) (by simp)
      simp only [List.length_append,List.length_cons,List.length_nil,List.nil_append] at this
      simp only [fU,if_true,e1]
      rw [show p.length + cur.length + 1 = p.length + cur.length + (0 + 1) + 0 by omega,this,D8 b cur (b :: rest) hc]
      simp [cA]
    · have:=ih p (cur ++ [b]) out (by simp [hs]) (by
        intro x hx
        rcases List.mem_append.1 hx with hx | hx
        · exact hc x hx
        · rw [List.mem_singleton.1 hx]; exact hb)
      simp only [List.length_append,List.length_cons,List.length_nil] at this
      simp only [fU,hb,if_false]
      rw [show p.length + cur.length + 1 = p.length + (cur.length + (0 + 1)) by omega,this]
      simp
theorem I7 (s : ah) : eY s = (cA 44 s).flatMap fun w=>if dS w≠[] then [dS w] else []:=by
  unfold eY
  induction cA 44 s with
  | nil=>rfl
  | cons w l ih =>
    simp only [List.map_cons,List.filter_cons,List.flatMap_cons,← ih]
    by_cases h : dS w = [] <;> simp [h]
@[simp] theorem ZJ (l : List UInt8) : l.map (fun b : UInt8=>[X.int IntKind.u8 (b.toNat : Int)]) = l.map eU:=rfl
@[simp] theorem abL (l : List UInt8) : nH (l.map eU) = some l:=IY l
theorem Ec (c : UInt8) : ∀ s : ah,((cA c s).map List.length).sum + (cA c s).length = s.length + 1
  | []=>rfl
  | b :: s=>by
    have:=Ec c s
    unfold cA
    split
    · simp; omega
    · cases h : cA c s with
      | nil=>exact absurd h (IB c s)
      | cons w ws=>rw [h] at this; simp at this ⊢; omega
theorem Iz (c : UInt8) (s : ah) : (cA c s).length≤s.length + 1:=by have:=Ec c s; omega
theorem IA (c : UInt8) (s : ah) : ∀ w∈cA c s,w.length≤s.length:=by
  intro w hw
  have h:=Ec c s
  have h1 : w.length + 1≤((cA c s).map List.length).sum + (cA c s).length:=by
    clear h
    revert hw
    generalize cA c s = l
    intro hw
    induction l with
    | nil=>cases hw
    | cons x l ih =>
      rcases List.mem_cons.1 hw with rfl | hw
      · simp; omega
      · have:=ih hw; simp; omega
  omega
theorem HC (b : UInt8) (h : 65≤b.toNat∧b.toNat≤90) : (b + 32).toNat = b.toNat + 32:=by
  rw [UInt8.toNat_add]
  have : (32 : UInt8).toNat = 32:=rfl
  omega
theorem Ja {n : Int} (h1 : 0≤n) (h2 : n < 256) : IntKind.u8.wrap n = n:=Ek h1 h2
end M
namespace M
theorem NS {β γ : Type} (φ : β→List γ) (hφ : ∀ b,(φ b).length≤1) (l : List β) (i : Nat) : ((l.take i).flatMap φ).length≤i:=by
  induction l generalizing i with
  | nil=>simp
  | cons b l ih =>
    cases i with
    | zero=>simp
    | succ i =>
      have:=ih i
      have:=hφ b
      simp only [List.take_succ_cons,List.flatMap_cons,List.length_append]
      omega
end M
namespace M
@[simp] theorem YI (i : Nat) : ((i : Int) < 0) = False:=by simp
end M
namespace M
def fZ {α : Type} (f : α→α) (l : List α) (i : Nat) : List α:=(l.take i).map f ++ l.drop i
@[simp] theorem aaB {α : Type} (f : α→α) (l : List α) (i : Nat) : (fZ f l i).length = l.length:=by simp [fZ]; omega
theorem SI {α : Type} (f : α→α) (l : List α) : fZ f l 0 = l:=by simp [fZ]
theorem SE {α : Type} (f : α→α) (l : List α) : fZ f l l.length = l.map f:=by simp [fZ]
theorem SF {α : Type} (f : α→α) (l : List α) (i : Nat) (h : i < l.length) : (fZ f l i)[i]? = some l[i]:=by
  unfold fZ
  rw [List.getElem?_append_right (by simp; omega)]
  have : i - ((l.take i).map f).length = 0:=by simp; omega
  rw [this]
  simp [h]
theorem SG {α : Type} (f : α→α) (l : List α) (i : Nat) (h : i < l.length) (h' : i < (fZ f l i).length) : (fZ f l i)[i] = l[i]:=by
  have:=SF f l i h
  rw [List.getElem?_eq_getElem h'] at this
  exact Option.some.inj this
theorem SH {α : Type} (f : α→α) (l : List α) (i : Nat) (h : i < l.length) : (fZ f l i).set i (f l[i]) = fZ f l (i + 1):=by
  unfold fZ
  rw [List.set_append_right _ _ (by simp; omega),List.drop_eq_getElem_cons h]
  have : i - ((l.take i).map f).length = 0:=by simp; omega
  rw [this,List.take_succ_eq_append_getElem h]
  simp only [List.set_cons_zero,List.map_append,List.map_cons,List.map_nil,List.append_assoc,List.cons_append,List.nil_append]
end M
namespace M
@[simp] theorem SM (m : Md) : ∀ (i : Nat) (l : List (List X)),X.bC m (l.take i) = (X.bC m l).take i
  | 0,l=>by simp [X.bC]
  | i + 1,[]=>by simp [X.bC]
  | i + 1,a :: l=>by simp [X.bC,SM m i l]
@[simp] theorem SL (m : Md) : ∀ (i : Nat) (l : List (List X)),X.bC m (l.drop i) = (X.bC m l).drop i
  | 0,l=>by simp
  | i + 1,[]=>by simp [X.bC]
  | i + 1,a :: l=>by simp [X.bC,SL m i l]
end M
set_option linter.unusedVariables false
set_option linter.unusedSimpArgs false
namespace M
open Go
abbrev zc : ah:=[99,111,110,116,101,110,116,45,108,101,110,103,116,104]
abbrev jM : ah:=[99,97,99,104,101,45,99,111,110,116,114,111,108]
abbrev gF : ah:=[118,97,114,121]
abbrev lT : ah:=[97,103,101]
theorem Ak {l : List ah} {a : ah} (h : a∈l) : a.length≤wL wS l:=ic (w:=wS) h
theorem Ej {l : List aG} {a : aG} (h : a∈l) : a.name.length + a.value.length≤wL aI l:=ic (w:=aI) h
def gj (fs : List aG) (n : ah) : Option (Nat×aG):=cL (fun f=>decide (f.name = n)) 0 fs
def gL (o : Option (Nat×aG)) : Int:=o.elim (-1) fun x=>(x.1 : Int)
def ct (fs : List aG) (n : ah) : Option ah:=(gj fs n).map fun x=>x.2.value
theorem KE {fs : List aG} {n : ah} {i : Nat} {f : aG} (h : gj fs n = some (i,f)) : ∃ hi : i < fs.length,fs[i] = f∧f.name = n:=by
  obtain ⟨_,h2,h3⟩:=sP h
  simp at h2 h3
  obtain ⟨hi,e⟩:=List.getElem?_eq_some_iff.1 h2
  exact ⟨hi,e,h3⟩
theorem n8 (fs : List aG) (n : ah) : ((ct fs n).getD []).length≤wL aI fs:=by
  unfold ct
  cases h : gj fs n with
  | none=>simp
  | some x =>
    obtain ⟨i,f⟩:=x
    obtain ⟨hi,rfl,_⟩:=KE h
    have:=Ej (List.getElem_mem hi)
    simp
    omega
def gw (fs : List aG) (x : aG×Nat) : Bool:=eX x.1.name && ia x.1.value && decide (gL (gj fs x.1.name) = x.2) && !decide (x.1.name = zc)
def ld (fs : List aG) : Bool:=aO (gw fs) fs.zipIdx && decide ((fs.length : Int)≤8)
def oS (r : cR) : Bool:=decide (100≤r.status∧r.status≤599) && ld r.fields && decide ((r.body.length : Int)≤120)
def oR (q : Rq) : Bool:=decide (1≤q.method∧q.method≤4) && gG q.path && ld q.fields && decide ((q.body.length : Int)≤120)
def within (n : Int) : Int:=max 0 (min n 1000000)
def plus (a b : Int) : Int:=within (within a + within b)
def since (t now : Int) : Int:=if now≤t then 0 else min (now - t) 1000000
def rY (fs : List aG) : Int:=match ct fs lT with
  | some v=>match cz v with
    | some n=>n
    | none=>1000000
  | none=>0
def nO (fs : List aG) (t now : Int) : Int:=plus (rY fs) (since t now)
def kN (fs : List aG) : List ah:=(eY ((ct fs gF).getD [])).map bF
def Dn (l : List ah) : Bool:=aO eX l && decide ((l.length : Int)≤4)
def iI (o : Ob) : Bool:=oS o.resp && gG o.path && decide (0≤o.t∧o.t≤1000000) && Dn o.names && decide (o.names = kN o.resp.fields) && decide (o.values.length = o.names.length) && aO ia o.values
def ig (b : Bn) : Bool:=decide (0≤b.t∧b.t≤1000000) && (if b.kind = 1∨b.kind = 2 then gG b.a && decide (b.b = []) else if b.kind = 3 then eX b.a && ia b.b else false)
def ja (b : Bn) (o : Ob) : Bool:=decide (o.t≤b.t) && ig b && iI o && (if b.kind = 1 then decide (o.path = b.a) else if b.kind = 2 then b.a.isPrefixOf o.path else decide (ct o.resp.fields b.a = some b.b))
def jD (l : List Bn) (o : Ob) : Bool:=l.any fun b=>ja b o
def oO (w : Wr) : Bool:=decide (0≤w.at_∧w.at_≤19)
def oN (d : ew) : Bool:=aO oO d.pending && decide ((d.cells.length : Int) = 20) && decide ((d.pending.length : Int)≤16)
def jO (l : List Kp) (i : Nat) : Int:=if i = 0 then 0 else (l[i - 1]?.map fun k=>k.seq).getD 0
def ni (S : Int) (l : List Kp) (x : Kp×Nat) : Bool:=iI x.1.obj && decide (5≤x.1.at_∧x.1.at_≤19) && aO (fun y=>decide ¬ y.at_ = x.1.at_) (l.take x.2) && decide (jO l x.2 < x.1.seq) && decide (x.1.seq < S)
def iG (S : Int) (l : List Kp) (x : Kp×Nat) : Bool:=iI x.1.obj && decide (5≤x.1.at_∧x.1.at_≤19) && decide (1≤x.1.seq∧x.1.seq≤S - 1) && decide (x.2 = 0∨jO l x.2 < x.1.seq) && aO (fun y=>decide ¬ y.at_ = x.1.at_) (l.take x.2)
def rm (S : Int) (l : List Kp) : Bool:=aO (ni S l) l.zipIdx
theorem Dy (l : List Kp) (i : Nat) (h : i < l.length) : jO l (i + 1) = l[i].seq:=by simp [jO,h]
theorem SA (S : Int) (l : List Kp) : aO (iG S l) l.zipIdx = rm S l:=by
  unfold rm
  rw [Bool.eq_iff_iff,kS,kS]
  have hm : ∀ x∈l.zipIdx,∃ h : x.2 < l.length,x.1 = l[x.2]:=fun x hx=>by
    obtain ⟨i,hi,rfl⟩:=List.getElem_of_mem hx
    simp at hi
    exact ⟨by simpa using hi,by simp⟩
  have hz : ∀ i (h : i < l.length),(l[i],i)∈l.zipIdx:=fun i h=>by
    have : (l.zipIdx)[i]'(by simpa using h) = (l[i],i):=by simp
    rw [← this]; exact List.getElem_mem _
  constructor
  · intro h x hx
    have h1:=h x hx
    simp only [iG,ni,Bool.and_eq_true,decide_eq_true_eq] at h1 ⊢
    obtain ⟨⟨⟨⟨a,b⟩,c⟩,d⟩,e⟩:=h1
    refine ⟨⟨⟨⟨a,b⟩,e⟩,?_⟩,by omega⟩
    rcases d with d | d
    · rw [d]
      have : jO l 0 = 0:=rfl
      omega
    · exact d
  · intro h
    have pos : ∀ i (hi : i < l.length),1≤l[i].seq:=by
      intro i
      induction i with
      | zero =>
        intro hi
        have h1:=h _ (hz 0 hi)
        simp only [ni,Bool.and_eq_true,decide_eq_true_eq] at h1
        have : jO l 0 = 0:=rfl
        omega
      | succ i ih =>
        intro hi
        have h1:=h _ (hz (i + 1) hi)
        simp only [ni,Bool.and_eq_true,decide_eq_true_eq] at h1
        have h2:=Dy l i (by omega)
        have h3:=ih (by omega)
        omega
    intro x hx
    have h1:=h x hx
    obtain ⟨hl,e⟩:=hm x hx
    have h2:=pos x.2 hl
    rw [← e] at h2
    simp only [iG,ni,Bool.and_eq_true,decide_eq_true_eq] at h1 ⊢
    obtain ⟨⟨⟨⟨a,b⟩,c⟩,d⟩,f⟩:=h1
    exact ⟨⟨⟨⟨a,b⟩,by omega⟩,.inr d⟩,c⟩
theorem F6 {β : Type} (p : β→Bool) : ∀ (l : List β) (k : Nat),(cL p k l).isSome = !aO (fun b=>!p b) l
  | [],_=>rfl
  | b :: l,k=>by
    unfold cL aO
    by_cases h : p b = true
    · simp [h]
    · have:=F6 p l (k + 1)
      unfold aO at this
      simp [h,this]
theorem vI {l : List Kp} {k : Kp} (h : k∈l) : bG k.obj≤wL bt l:=ic (w:=bt) h
theorem Aj {l : List Bn} {b : Bn} (h : b∈l) : aN b≤wL aN l:=ic (w:=aN) h
def jm (s : Sh) : Bool:=oN s.bz && decide ((s.aP.length : Int)≤5) && decide (5≤s.next∧s.next≤19) && decide (1≤s.seq∧s.seq≤100000) && aO ig s.aP && rm s.seq s.au
end M
set_option linter.unusedVariables false
set_option linter.unusedSimpArgs false
namespace M
open Go
def cP (_ : Int) (k : Int) : Int:=k
def bR (_ : ah) (k : Int) : ah:=oF k
def lQ (_ : Bool) (k : Int) : Bool:=decide (k.tmod 3 = 0)
def aB {α : Type} (_ : α) : Nat:=1
def aZ {α : Type} (mk : α→Int→α) (n : α→Nat) : List α→Int→List α
  | [],_=>[]
  | a :: l,k=>mk a k :: aZ mk n l (k + (n a : Nat))
def nL {α : Type} (n : α→Nat) (l : List α) : Nat:=(l.map n).sum
@[simp] theorem SR {α : Type} (mk : α→Int→α) (n : α→Nat) : ∀ (l : List α) (k : Int),(aZ mk n l k).length = l.length
  | [],_=>rfl
  | a :: l,k=>by simp [aZ,SR mk n l]
theorem nw {α : Type} (n : α→Nat) (l : List α) (i : Nat) (h : i < l.length) : nL n (l.take (i + 1)) = nL n (l.take i) + n l[i]:=by
  unfold nL
  rw [List.take_succ_eq_append_getElem h,List.map_append,List.sum_append]
  simp
theorem nv {α : Type} (mk : α→Int→α) (n : α→Nat) : ∀ (l : List α) (k : Int) (i : Nat) (h : i < l.length) (h' : i < (aZ mk n l k).length),(aZ mk n l k)[i] = mk l[i] (k + (nL n (l.take i) : Nat))
  | a :: l,k,0,_,_=>by simp [aZ,nL]
  | a :: l,k,i + 1,h,h'=>by
    have h1:=nv mk n l (k + (n a : Nat)) i (by simpa using h) (by simp at h ⊢; omega)
    simp only [aZ,List.getElem_cons_succ,List.take_succ_cons,h1]
    congr 1
    simp [nL]; omega
theorem oL {α : Type} (n : α→Nat) (l : List α) (i : Nat) (h : i < l.length) : nL n (l.take i) + n l[i]≤nL n l:=by
  rw [← nw n l i h]
  unfold nL
  conv=>rhs; rw [← List.take_append_drop (i + 1) l]
  rw [List.map_append,List.sum_append]
  omega
theorem S0 {α : Type} (l : List α) : nL (aB : α→Nat) l = l.length:=by
  unfold nL aB
  induction l with
  | nil=>rfl
  | cons a l ih=>simp only [List.map_cons,List.sum_cons,List.length_cons,ih]; omega
theorem oK {α : Type} (n : α→Nat) (h : ∀ a,1≤n a) (l : List α) : l.length≤nL n l:=by
  unfold nL
  induction l with
  | nil=>simp
  | cons a l ih=>have:=h a; simp; omega
theorem q9 {α : Type} (n w : α→Nat) (h : ∀ a,n a≤20 + 20 * w a) (l : List α) : nL n l≤20 * wL w l:=by
  unfold nL wL
  induction l with
  | nil=>simp
  | cons a l ih=>have:=h a; simp at ih ⊢; omega
theorem uM {α : Type} (w : α→Nat) (l : List α) : nL (aB : α→Nat) l≤20 * wL w l:=by
  rw [S0]; unfold wL; omega
def dR (a : aG) (k : Int) : aG:=⟨bR a.name (k),bR a.value (k + 1)⟩
def aC (a : aG) : Nat:=2
theorem Fq (a : aG) : 1≤aC a:=by unfold aC; omega
theorem A5 (a : aG) : aC a≤20 + 20 * aI a:=by
  unfold aC
  skip
  simp only [aI]
  omega
def oJ (a : Wr) (k : Int) : Wr:=⟨cP a.at_ (k),bR a.text (k + 1)⟩
def dn (a : Wr) : Nat:=2
theorem MR (a : Wr) : 1≤dn a:=by unfold dn; omega
theorem MS (a : Wr) : dn a≤20 + 20 * ck a:=by
  unfold dn
  skip
  simp only [ck]
  omega
def oI (a : Kp) (k : Int) : Kp:=⟨⟨bR a.obj.path (k),aZ bR aB a.obj.names (k + 1),aZ bR aB a.obj.values (k + 1 + (nL aB a.obj.names : Nat)),⟨cP a.obj.resp.status (k + 1 + (nL aB a.obj.names : Nat) + (nL aB a.obj.values : Nat)),aZ dR aC a.obj.resp.fields (k + 1 + (nL aB a.obj.names : Nat) + (nL aB a.obj.values : Nat) + 1),bR a.obj.resp.body (k + 1 + (nL aB a.obj.names : Nat) + (nL aB a.obj.values : Nat) + 1 + (nL aC a.obj.resp.fields : Nat))⟩,cP a.obj.t (k + 1 + (nL aB a.obj.names : Nat) + (nL aB a.obj.values : Nat) + 1 + (nL aC a.obj.resp.fields : Nat) + 1)⟩,cP a.at_ (k + 1 + (nL aB a.obj.names : Nat) + (nL aB a.obj.values : Nat) + 1 + (nL aC a.obj.resp.fields : Nat) + 1 + 1),cP a.seq (k + 1 + (nL aB a.obj.names : Nat) + (nL aB a.obj.values : Nat) + 1 + (nL aC a.obj.resp.fields : Nat) + 1 + 1 + 1)⟩
def cY (a : Kp) : Nat:=6 + nL aB a.obj.names + nL aB a.obj.values + nL aC a.obj.resp.fields
theorem MO (a : Kp) : 1≤cY a:=by unfold cY; omega
theorem MP (a : Kp) : cY a≤20 + 20 * bt a:=by
  unfold cY
  have:=uM wS a.obj.names
  have:=uM wS a.obj.values
  have:=q9 aC aI A5 a.obj.resp.fields
  simp only [bt,bG,cj]
  omega
def oH (a : Bn) (k : Int) : Bn:=⟨cP a.kind (k),bR a.a (k + 1),bR a.b (k + 1 + 1),cP a.t (k + 1 + 1 + 1)⟩
def dm (a : Bn) : Nat:=4
theorem ML (a : Bn) : 1≤dm a:=by unfold dm; omega
theorem MN (a : Bn) : dm a≤20 + 20 * aN a:=by
  unfold dm
  skip
  simp only [aN]
  omega
def SS (a : Fl) (k : Int) : Fl:=⟨⟨cP a.q.method (k),bR a.q.path (k + 1),aZ dR aC a.q.fields (k + 1 + 1),bR a.q.body (k + 1 + 1 + (nL aC a.q.fields : Nat))⟩,aZ cP aB a.who (k + 1 + 1 + (nL aC a.q.fields : Nat) + 1),⟨bR a.old.path (k + 1 + 1 + (nL aC a.q.fields : Nat) + 1 + (nL aB a.who : Nat)),aZ bR aB a.old.names (k + 1 + 1 + (nL aC a.q.fields : Nat) + 1 + (nL aB a.who : Nat) + 1),aZ bR aB a.old.values (k + 1 + 1 + (nL aC a.q.fields : Nat) + 1 + (nL aB a.who : Nat) + 1 + (nL aB a.old.names : Nat)),⟨cP a.old.resp.status (k + 1 + 1 + (nL aC a.q.fields : Nat) + 1 + (nL aB a.who : Nat) + 1 + (nL aB a.old.names : Nat) + (nL aB a.old.values : Nat)),aZ dR aC a.old.resp.fields (k + 1 + 1 + (nL aC a.q.fields : Nat) + 1 + (nL aB a.who : Nat) + 1 + (nL aB a.old.names : Nat) + (nL aB a.old.values : Nat) + 1),bR a.old.resp.body (k + 1 + 1 + (nL aC a.q.fields : Nat) + 1 + (nL aB a.who : Nat) + 1 + (nL aB a.old.names : Nat) + (nL aB a.old.values : Nat) + 1 + (nL aC a.old.resp.fields : Nat))⟩,cP a.old.t (k + 1 + 1 + (nL aC a.q.fields : Nat) + 1 + (nL aB a.who : Nat) + 1 + (nL aB a.old.names : Nat) + (nL aB a.old.values : Nat) + 1 + (nL aC a.old.resp.fields : Nat) + 1)⟩,lQ a.BI (k + 1 + 1 + (nL aC a.q.fields : Nat) + 1 + (nL aB a.who : Nat) + 1 + (nL aB a.old.names : Nat) + (nL aB a.old.values : Nat) + 1 + (nL aC a.old.resp.fields : Nat) + 1 + 1)⟩
def A0 (a : Fl) : Nat:=8 + nL aC a.q.fields + nL aB a.who + nL aB a.old.names + nL aB a.old.values + nL aC a.old.resp.fields
def SV (a : Se) (k : Int) : Se:=⟨⟨cP a.q.method (k),bR a.q.path (k + 1),aZ dR aC a.q.fields (k + 1 + 1),bR a.q.body (k + 1 + 1 + (nL aC a.q.fields : Nat))⟩,⟨cP a.resp.status (k + 1 + 1 + (nL aC a.q.fields : Nat) + 1),aZ dR aC a.resp.fields (k + 1 + 1 + (nL aC a.q.fields : Nat) + 1 + 1),bR a.resp.body (k + 1 + 1 + (nL aC a.q.fields : Nat) + 1 + 1 + (nL aC a.resp.fields : Nat))⟩,cP a.t (k + 1 + 1 + (nL aC a.q.fields : Nat) + 1 + 1 + (nL aC a.resp.fields : Nat) + 1)⟩
def Fs (a : Se) : Nat:=6 + nL aC a.q.fields + nL aC a.resp.fields
def SU (a : Rp) (k : Int) : Rp:=⟨cP a.client (k),⟨cP a.q.method (k + 1),bR a.q.path (k + 1 + 1),aZ dR aC a.q.fields (k + 1 + 1 + 1),bR a.q.body (k + 1 + 1 + 1 + (nL aC a.q.fields : Nat))⟩,⟨cP a.resp.status (k + 1 + 1 + 1 + (nL aC a.q.fields : Nat) + 1),aZ dR aC a.resp.fields (k + 1 + 1 + 1 + (nL aC a.q.fields : Nat) + 1 + 1),bR a.resp.body (k + 1 + 1 + 1 + (nL aC a.q.fields : Nat) + 1 + 1 + (nL aC a.resp.fields : Nat))⟩,cP a.kind (k + 1 + 1 + 1 + (nL aC a.q.fields : Nat) + 1 + 1 + (nL aC a.resp.fields : Nat) + 1),cP a.t (k + 1 + 1 + 1 + (nL aC a.q.fields : Nat) + 1 + 1 + (nL aC a.resp.fields : Nat) + 1 + 1),⟨bR a.obj.path (k + 1 + 1 + 1 + (nL aC a.q.fields : Nat) + 1 + 1 + (nL aC a.resp.fields : Nat) + 1 + 1 + 1),aZ bR aB a.obj.names (k + 1 + 1 + 1 + (nL aC a.q.fields : Nat) + 1 + 1 + (nL aC a.resp.fields : Nat) + 1 + 1 + 1 + 1),aZ bR aB a.obj.values (k + 1 + 1 + 1 + (nL aC a.q.fields : Nat) + 1 + 1 + (nL aC a.resp.fields : Nat) + 1 + 1 + 1 + 1 + (nL aB a.obj.names : Nat)),⟨cP a.obj.resp.status (k + 1 + 1 + 1 + (nL aC a.q.fields : Nat) + 1 + 1 + (nL aC a.resp.fields : Nat) + 1 + 1 + 1 + 1 + (nL aB a.obj.names : Nat) + (nL aB a.obj.values : Nat)),aZ dR aC a.obj.resp.fields (k + 1 + 1 + 1 + (nL aC a.q.fields : Nat) + 1 + 1 + (nL aC a.resp.fields : Nat) + 1 + 1 + 1 + 1 + (nL aB a.obj.names : Nat) + (nL aB a.obj.values : Nat) + 1),bR a.obj.resp.body (k + 1 + 1 + 1 + (nL aC a.q.fields : Nat) + 1 + 1 + (nL aC a.resp.fields : Nat) + 1 + 1 + 1 + 1 + (nL aB a.obj.names : Nat) + (nL aB a.obj.values : Nat) + 1 + (nL aC a.obj.resp.fields : Nat))⟩,cP a.obj.t (k + 1 + 1 + 1 + (nL aC a.q.fields : Nat) + 1 + 1 + (nL aC a.resp.fields : Nat) + 1 + 1 + 1 + 1 + (nL aB a.obj.names : Nat) + (nL aB a.obj.values : Nat) + 1 + (nL aC a.obj.resp.fields : Nat) + 1)⟩,cP a.aP (k + 1 + 1 + 1 + (nL aC a.q.fields : Nat) + 1 + 1 + (nL aC a.resp.fields : Nat) + 1 + 1 + 1 + 1 + (nL aB a.obj.names : Nat) + (nL aB a.obj.values : Nat) + 1 + (nL aC a.obj.resp.fields : Nat) + 1 + 1)⟩
def MQ (a : Rp) : Nat:=13 + nL aC a.q.fields + nL aC a.resp.fields + nL aB a.obj.names + nL aB a.obj.values + nL aC a.obj.resp.fields
def pz (a : Rq) (k : Int) : Rq:=⟨a.method,a.path,aZ dR aC a.fields (k),a.body⟩
@[simp] theorem abE (a : Rq) (k : Int) : (pz a k).method = a.method:=rfl
@[simp] theorem abF (a : Rq) (k : Int) : (pz a k).path = a.path:=rfl
@[simp] theorem abD (a : Rq) (k : Int) : (pz a k).body = a.body:=rfl
def kL (a : Rq) : Nat:=nL aC a.fields
theorem Vc (a : Rq) : kL a≤20 * cx a:=by
  unfold kL
  have:=q9 aC aI A5 a.fields
  unfold cx
  omega
def jT (a : cR) (k : Int) : cR:=⟨a.status,aZ dR aC a.fields (k),a.body⟩
@[simp] theorem abH (a : cR) (k : Int) : (jT a k).status = a.status:=rfl
@[simp] theorem abG (a : cR) (k : Int) : (jT a k).body = a.body:=rfl
def gb (a : cR) : Nat:=nL aC a.fields
theorem Vd (a : cR) : gb a≤20 * cj a:=by
  unfold gb
  have:=q9 aC aI A5 a.fields
  unfold cj
  omega
def pq (a : Ob) (k : Int) : Ob:=⟨a.path,aZ bR aB a.names (k),aZ bR aB a.values (k + (nL aB a.names : Nat)),jT a.resp (k + (nL aB a.names : Nat) + (nL aB a.values : Nat)),a.t⟩
@[simp] theorem abA (a : Ob) (k : Int) : (pq a k).path = a.path:=rfl
@[simp] theorem abB (a : Ob) (k : Int) : (pq a k).resp = jT a.resp (k + (nL aB a.names : Nat) + (nL aB a.values : Nat)):=rfl
@[simp] theorem abC (a : Ob) (k : Int) : (pq a k).t = a.t:=rfl
def jV (a : Ob) : Nat:=nL aB a.names + nL aB a.values + gb a.resp
theorem Vb (a : Ob) : jV a≤20 * bG a:=by
  unfold jV
  have:=uM wS a.names
  have:=uM wS a.values
  have:=Vd a.resp
  unfold bG
  omega
def vH (a : ew) (k : Int) : ew:=⟨aZ bR aB a.cells (k),aZ oJ dn a.pending (k + (nL aB a.cells : Nat))⟩
def jU (a : ew) : Nat:=nL aB a.cells + nL dn a.pending
theorem Va (a : ew) : jU a≤20 * cH a:=by
  unfold jU
  have:=uM wS a.cells
  have:=q9 dn ck MS a.pending
  unfold cH
  omega
def pE (a : Sh) (k : Int) : Sh:=⟨vH a.bz (k),aZ oI cY a.au (k + (jU a.bz : Nat)),aZ oH dm a.aP (k + (jU a.bz : Nat) + (nL cY a.au : Nat)),a.next,a.seq⟩
@[simp] theorem abI (a : Sh) (k : Int) : (pE a k).bz = vH a.bz (k):=rfl
@[simp] theorem abJ (a : Sh) (k : Int) : (pE a k).next = a.next:=rfl
@[simp] theorem abK (a : Sh) (k : Int) : (pE a k).seq = a.seq:=rfl
def kM (a : Sh) : Nat:=jU a.bz + nL cY a.au + nL dm a.aP
theorem Ve (a : Sh) : kM a≤20 * bP a:=by
  unfold kM
  have:=Va a.bz
  have:=q9 cY bt MP a.au
  have:=q9 dm aN MN a.aP
  unfold bP
  omega
def IL (a : Ca) (k : Int) : Ca:=⟨pE a.iP (k),aZ SS A0 a.sS (k + (kM a.iP : Nat)),a.now,aZ SV Fs a.seen (k + (kM a.iP : Nat) + (nL A0 a.sS : Nat)),aZ SU MQ a.sent (k + (kM a.iP : Nat) + (nL A0 a.sS : Nat) + (nL Fs a.seen : Nat))⟩
@[simp] theorem abt (a : Ca) (k : Int) : (IL a k).iP = pE a.iP (k):=rfl
@[simp] theorem abr (a : Ca) (k : Int) : (IL a k).now = a.now:=rfl
def rO (a : De) (k : Int) : De:=⟨a.kind,a.client,pz a.q (k),a.a,jT a.resp (k + (kL a.q : Nat)),a.mA,aZ lQ aB a.keep (k + (kL a.q : Nat) + (gb a.resp : Nat))⟩
@[simp] theorem abx (a : De) (k : Int) : (rO a k).kind = a.kind:=rfl
@[simp] theorem abw (a : De) (k : Int) : (rO a k).client = a.client:=rfl
@[simp] theorem aby (a : De) (k : Int) : (rO a k).q = pz a.q (k):=rfl
@[simp] theorem abu (a : De) (k : Int) : (rO a k).a = a.a:=rfl
@[simp] theorem abz (a : De) (k : Int) : (rO a k).resp = jT a.resp (k + (kL a.q : Nat)):=rfl
@[simp] theorem abv (a : De) (k : Int) : (rO a k).mA = a.mA:=rfl
end M
set_option linter.unusedVariables false
set_option linter.unusedSimpArgs false
namespace M
open Go Go.RowKit
theorem mg.cell [B : Bs] {w : World} (h : mg w) {b k : Nat} {v : Value} (hc : B.W0.cell? ⟨b,k,none⟩ = some v) : w.cell? ⟨b,k,none⟩ = some v:=by
  have hb : b < B.W0.heap.size:=by
    rcases Nat.lt_or_ge b B.W0.heap.size with h | h
    · exact h
    · simp [World.cell?,Array.getElem?_eq_none h] at hc
  have e:=h b hb
  simpa [World.cell?,e] using hc
theorem KI (w : World) : Below w.heap.size w w.drew:=(Below.refl _ _).drew
theorem Af {cs : List C} {s c : ByteArray} (h : cs.map C.er = [.str s,.str c]) : cs = [.str s,.str c]:=by
  obtain ⟨a,r,rfl,h1,h2⟩:=map_cons h
  obtain ⟨b,r',rfl,h3,h4⟩:=map_cons h2
  obtain rfl:=map_nil h4
  rw [iV h1,iV h3]
theorem Tq {cs : List C} {s : ByteArray} (h : cs.map C.er = [.str s]) : cs = [.str s]:=by
  obtain ⟨a,r,rfl,h1,h2⟩:=map_cons h
  obtain rfl:=map_nil h2
  rw [iV h1]
theorem XO [Bs] {P : Program} {f0 : FuncId} (hc : ∀ (s : ByteArray) (c : UInt8),c.toNat < 128→∀ w,s.size≤9223372036854775807 →
    Calls P f0 #[.string s,.string ⟨#[c]⟩] w fun e w'=>e = .returned (.string ⟨(Lib.trimB s.data.toList c).toArray⟩)∧(w' = w∨w' = w.drew)) : (dw f0 Ae).Sound P :=
  uN fun xs r hg w zl zb cs hx hA hs=>by
    unfold Ae at hg
    split at hg
    · rename_i s c
      split at hg
      · rename_i hh
        cases hg
        obtain rfl:=Af hx
        have e : c = ⟨#[32]⟩:=by
          have:=congrArg List.toArray hh.1
          simp at this
          cases c; simp at this; rw [this]
        subst e
        refine (hc s 32 (by decide) w hh.2).mono fun e w' ⟨he,hw⟩=>⟨.str ⟨(dS s.data.toList).toArray⟩,he,rfl,?_,Ge ?_⟩
        · rcases hw with rfl | rfl
          · exact Below.refl _ _
          · exact KI _
        · have:=IQ s.data.toList
          have h2:=hh.2
          simp only [ByteArray.size] at h2 ⊢
          simp at this ⊢
          omega
      · cases hg
    · cases hg
theorem UP [B : Bs] {P : Program} {f0 : FuncId} {g1 : Nat} {t9 : TypeId} (hm : ∃ m,B.W0.cell? ⟨g1,0,none⟩ = some (.int .i64 m)) (hc : ∀ (s sep : ByteArray) (m : Int) (w : World),s.size < 4294967281→w.cell? ⟨g1,0,none⟩ = some (.int .i64 m)→1≤sep.size →
    Calls P f0 #[.string s,.string sep] w fun e w'=>e = .returned (.slice (some ⟨w.heap.size,0,none⟩) (Lib.countB s sep + 1) (Lib.countB s sep + 1))∧w' = w.alloc (.cells ((Lib.splitB sep 0 (Lib.countB s sep) s).map Value.string).toArray t9)) : (dw f0 zV).Sound P :=
  uN fun xs r hg w zl zb cs hx hA hs=>by
    unfold zV at hg
    split at hg
    · rename_i s c
      split at hg
      · rename_i hh
        cases hg
        obtain rfl:=Af hx
        obtain ⟨m,hm⟩:=hm
        have hlen:=Lib.splitB_all c hh.2 0 _ s rfl
        have GH:=Lib.splitB_data c 0 (Lib.countB s c) s
        refine (hc s c m w hh.1 (hs.cell hm) hh.2).mono fun e w' ⟨he,hw⟩=>?_
        subst hw
        refine ⟨.row .own 1 (some (w.heap.size,0,none)) (Lib.splitB c 0 (Lib.countB s c) s).length (Lib.splitB c 0 (Lib.countB s c) s).length fun i _=>.str ((Lib.splitB c 0 (Lib.countB s c) s).getD i ByteArray.empty),?_,?_,?_,?_⟩
        · rw [he,hlen]; rfl
        · rw [Uv]
          unfold DH
          congr 1
          have : Lib.split s.data.toList c.data.toList = (Lib.splitB c 0 (Lib.countB s c) s).map (·.data.toList):=GH.symm
          rw [this,List.map_map]
          refine List.map_congr_left fun x _=>?_
          simp
        · exact (Below.refl _ _).alloc (Nat.le_refl _) _
        · refine QA (Nat.le_refl _) (t:=t9) ?_ fun x hx=>?_
          · show (w.heap.push _)[w.heap.size]? = _
            simp
          · have h1 : x.data.toList∈Lib.splitK c.data.toList 0 (Lib.countB s c) s.data.toList:=by rw [← GH]; exact List.mem_map_of_mem hx
            have h2 : ∀ (k : Nat) (l : List UInt8),∀ y∈Lib.splitK c.data.toList 0 k l,y.length≤l.length:=by
              intro k
              induction k with
              | zero=>intro l y hy; simp [Lib.splitK] at hy; rw [hy]; exact Nat.le_refl _
              | succ k ih =>
                intro l y hy
                unfold Lib.splitK at hy
                split at hy
                · rw [List.mem_singleton.1 hy]; exact Nat.le_refl _
                · rcases List.mem_cons.1 hy with rfl | hy
                  · simp
                    omega
                  · have:=ih _ _ hy; simp at this; omega
            have h3:=h2 _ _ _ h1
            have h4:=hh.1
            have e1 : s.size = s.data.toList.length:=Lib.size_eq _
            have e2 : x.size = x.data.toList.length:=Lib.size_eq _
            omega
      · cases hg
    · cases hg
theorem S8 [B : Bs] {P : Program} {f0 : FuncId} (hc : ∀ (s : ByteArray) (w : World),mg w→s.size≤9223372036854775807 →
    Calls P f0 #[.string s] w fun e w'=>e = .returned (.tuple #[.int .i64 (((cz s.data.toList).getD 0 : Nat) : Int),.bool (cz s.data.toList).isSome])∧Below w.heap.size w w') : (dw f0 zf).Sound P :=
  uN fun xs r hg w zl zb cs hx hA hs=>by
    unfold zf at hg
    split at hg
    · rename_i s
      split at hg
      · rename_i hh
        cases hg
        obtain rfl:=Tq hx
        refine (hc s w hs hh).mono fun e w' ⟨he,hw⟩=>?_
        refine ⟨jq [.int .i64 (((cz s.data.toList).getD 0 : Nat) : Int),.bool (cz s.data.toList).isSome],?_,?_,hw,Gf fun x hx=>?_⟩
        · rw [he,IW]; rfl
        · rw [IV]; cases cz s.data.toList <;> rfl
        · simp only [List.mem_cons,List.not_mem_nil,or_false] at hx
          rcases hx with rfl | rfl
          · exact ⟨Qz,trivial,fun _ _ h=>h⟩
          · exact ⟨Bt,trivial,fun _ _ h=>h⟩
      · cases hg
    · cases hg
end M
set_option linter.unusedVariables false
namespace Go.Proofs
open Go.RowKit
theorem U5 {P : Program} {w w' : World} {n : String} {k : IntKind} {zs : List Int} (h : Lib.TabIs P w n k zs) (hw : Below w.heap.size w w') : Lib.TabIs P w' n k zs:=by
  unfold Lib.TabIs World.var? at h ⊢
  cases hg : P.globalNamed n with
  | none=>rw [hg] at h; cases h
  | some g =>
    rw [hg] at h
    simp only [Option.bind_some] at h ⊢
    have hlt : g < w.heap.size:=by
      rcases Nat.lt_or_ge g w.heap.size with h' | h'
      · exact h'
      · rw [Array.getElem?_eq_none h'] at h; cases h
    rw [hw.block g hlt]
    exact h
theorem I5 [B : M.Bs] {P : Program} {w : World} {n : String} {cs : Array Value} (h : B.W0.var? P n = some cs) (hw : M.mg w) : w.var? P n = some cs:=by
  unfold World.var? at h ⊢
  cases hg : P.globalNamed n with
  | none=>rw [hg] at h; cases h
  | some g =>
    rw [hg] at h
    simp only [Option.bind_some] at h ⊢
    have hlt : g < B.W0.heap.size:=by
      rcases Nat.lt_or_ge g B.W0.heap.size with h' | h'
      · exact h'
      · rw [Array.getElem?_eq_none h'] at h; cases h
    rw [hw g hlt]
    exact h
theorem QG (w : World) (k : Nat) (os : Array Obj) : Below w.heap.size w (Sort.grow (w.drewN k) os) :=
  ⟨rfl,rfl,rfl,by simp [Sort.grow,World.drewN],fun b hb=>by show (w.heap ++ os)[b]? = w.heap[b]?; exact Array.getElem?_append_left hb⟩
def kB (v : Int) (l : List UInt8) : Bool:=decide (0≤v∧v≤1000000∧Lib.itoa v = l)
def ri (v : Int) (l : List UInt8) : Int:=if kB v l = true then v else 0
theorem S6 {P : Program} {f a : FuncId} {s : ByteArray} {w : World} (hmax : s.size≤9223372036854775807)
    (RA : 7 < s.size→Calls P f #[.string s] w fun e w'=>e = .returned (.tuple #[.int .i64 0,.bool false])∧w' = w)
    (hok : ¬ 7 < s.size→∀ v,Lib.atoiAll s.data.toList = .ok v→Calls P f #[.string s] w fun e w'=>e = .returned (.tuple #[.int .i64 (ri v s.data.toList),.bool (kB v s.data.toList)])∧Below w.heap.size w w')
    (Q7 : ¬ 7 < s.size→(∀ v,Lib.atoiAll s.data.toList≠.ok v)→Calls P f #[.string s] w fun e w'=>e = .returned (.tuple #[.int .i64 0,.bool false])∧Below w.heap.size w w') :
    Calls P f #[.string s] w fun e w'=>e = .returned (.tuple #[.int .i64 (((M.cz s.data.toList).getD 0 : Nat) : Int),.bool (M.cz s.data.toList).isSome])∧Below w.heap.size w w':=by
  have hl : s.size = s.data.toList.length:=Lib.size_eq _
  by_cases h : 7 < s.size
  · rw [M.HK _ (by omega)]
    exact (RA h).mono fun e w' ⟨he,hw⟩=>⟨he,hw ▸ Below.refl _ _⟩
  by_cases hv : ∃ v,Lib.atoiAll s.data.toList = .ok v
  · obtain ⟨v,hv⟩:=hv
    rw [← M.S9 _ _ hv]
    refine (hok h v hv).mono fun e w' ⟨he,hw⟩=>⟨?_,hw⟩
    rw [he]
    by_cases hb : kB v s.data.toList = true
    · have hb':=hb
      unfold kB at hb'
      rw [decide_eq_true_eq] at hb'
      rw [ri,if_pos hb,hb,if_pos hb']
      simp; omega
    · have hb':=hb
      unfold kB at hb'
      rw [decide_eq_true_eq] at hb'
      rw [ri,if_neg hb,if_neg hb']
      simp [hb]
  · have dr : ∀ v,Lib.atoiAll s.data.toList≠.ok v:=fun v e=>hv ⟨v,e⟩
    rw [M.Tb _ dr]
    exact Q7 h dr
theorem abh {H : Type} {enc : TypeId×Value→H} {a : Assume} {C : Checked} {os : Os} {f : FuncId} {fn : Func} {s : ChangeSpec} {conds : List PathCond} {apart fresh handsOn again : Bool} {X : World→Array Value→Prop}
    (hX : ∀ (w w' : World) (args : Array Value),w.heap = w'.heap→X w args→X w' args)
    (own : ownKnob C.prog.godebug = none) (started : os.Started) (noInit : C.prog.inits.idxOf? f = none) (hfn : C.prog.funcs[f]? = some fn)
    (witness : ∃ (w : World) (tape : Tape) (i : Input),w.os = os∧(w.forCall tape i).Shaped C.prog∧i.vars = []∧Input.okWide C.prog (w.forCall tape i) .any w.heap.size f i ∧
      ((s.pre enc C.prog fn conds apart (w.forCall tape i).memory i.args∧X (w.forCall tape i).memory i.args)∧sizedMet enc C.prog fn (OpenSpec.ofChange s) apart (w.forCall tape i).memory i.args)∧a.holds C.prog (lone (Frame.enter C.prog f i.args .normal) [] (w.forCall tape i)))
    (contract : ∀ (W : World) (base : Nat) (args : Array Value) (ds gs : List (DataW H)) (before : List MemPlace),
      (∀ (j : Nat) t v,fn.params[j]? = some t→args[j]? = some v→Value.okWide C.prog W .any base t v) →
      DataW.Whole enc C.prog fn.params.toList s.vars apart W args.toList ds gs before →
      conds.all (PathCond.test C.prog ⟨fn.params.toList,ds,s.plain.varTypes C.prog,gs⟩) = true →
      (DataW.weightsEach C.prog (fn.params.toList ++ s.plain.varTypes C.prog) (ds ++ gs)).all (·≤reachBytes) = true→X W args →
      W.ShapedOpen C.prog →
      a.holds C.prog (lone (Frame.enter C.prog f args .normal) [] W) →
      Calls C.prog f args W fun e W'=>∃ v,e = .returned v∧s.post enc C.prog fn apart fresh handsOn again W args v W') :
    ReturnsInHanded a C os f .any (fun w args=>(s.pre enc C.prog fn conds apart w args∧X w args)∧sizedMet enc C.prog fn (OpenSpec.ofChange s) apart w args) (s.post enc C.prog fn apart fresh handsOn again):=by
  refine returnsInHanded_of_calls own started noInit witness ?_
  intro w tape i _ hsh _ hok hpre hholds
  obtain ⟨_,_,_,fn',Rm,_,_,_,_,hval⟩:=hok
  have e : fn' = fn:=Option.some.inj (Rm.symm.trans hfn)
  subst e
  obtain ⟨⟨⟨ds,gs,before,hw,hc⟩,hx⟩,hz⟩:=hpre
  have hw':=DataW.Whole.of_heap (w':=w.forCall tape i) (by rfl) hw
  refine (contract (w.forCall tape i) w.heap.size i.args ds gs before hval hw' hc (hz.weights hw) (hX _ _ _ (by rfl) hx) hsh hholds).mono fun e W' ⟨v,he,hp⟩=>?_
  subst he
  exact ChangeSpec.post_blind hp
end Go.Proofs
set_option linter.unusedVariables false
set_option linter.unusedSimpArgs false
namespace M
open Go Go.RowKit
theorem XP (s c : ah) : (Lib.trimPrefix s c).length≤s.length:=by
  unfold Lib.trimPrefix
  split
  · simp
  · exact Nat.le_refl _
theorem M4 [B : Bs] {P : Program} {f0 : FuncId} (hc : ∀ (s p : ByteArray) (w : World),
    Calls P f0 #[.string s,.string p] w fun e w'=>e = .returned (.tuple #[.string ⟨(Lib.trimPrefix s.data.toList p.data.toList).toArray⟩,.bool (Lib.hasPrefix s.data.toList p.data.toList)])∧w' = w) : (dw f0 wC).Sound P :=
  uN fun xs r hg w zl zb cs hx hA hs=>by
    unfold wC at hg
    split at hg
    · rename_i s c
      split at hg
      · rename_i hh
        cases hg
        obtain rfl:=Af hx
        have hl:=XP s.data.toList c.data.toList
        refine (hc s c w).mono fun e w' ⟨he,hw⟩=>?_
        subst hw
        refine ⟨jq [.str ⟨(Lib.trimPrefix s.data.toList c.data.toList).toArray⟩,.bool (Lib.hasPrefix s.data.toList c.data.toList)],?_,?_,Below.refl _ _,Gf fun x hx=>?_⟩
        · rw [he,IW]; rfl
        · rw [IV]; rfl
        · have e1 : s.size = s.data.toList.length:=Lib.size_eq _
          simp only [List.mem_cons,List.not_mem_nil,or_false] at hx
          rcases hx with rfl | rfl
          · exact ⟨Ge (by simp only [ByteArray.size,List.size_toArray]; omega),trivial,fun _ _ h=>h⟩
          · exact ⟨Bt,trivial,fun _ _ h=>h⟩
      · cases hg
    · cases hg
end M
set_option linter.unusedVariables false
set_option linter.unusedSimpArgs false
namespace M
open Go Go.RowKit
theorem Q5 [B : Bs] {P : Program} {f0 : FuncId} (hc : ∀ (s p : ByteArray) (w : World),
    Calls P f0 #[.string s,.string p] w fun e w'=>e = .returned (.bool (Lib.hasPrefix s.data.toList p.data.toList))∧w' = w) : (dw f0 xd).Sound P :=
  uN fun xs r hg w zl zb cs hx hA hs=>by
    unfold xd at hg
    split at hg
    · rename_i s c
      cases hg
      obtain rfl:=Af hx
      refine (hc s c w).mono fun e w' ⟨he,hw⟩=>?_
      subst hw
      exact ⟨.bool (Lib.hasPrefix s.data.toList c.data.toList),he,rfl,Below.refl _ _,Bt⟩
    · cases hg
end M
set_option linter.unusedVariables false
set_option linter.unusedSimpArgs false
namespace M
open Go Go.RowKit
end M
set_option linter.unusedVariables false
set_option linter.unusedSimpArgs false
namespace M
open Go
end M
set_option linter.unusedVariables false
set_option linter.unusedSimpArgs false
namespace M
open Go
theorem UA {n : Nat} {P : Program} {row : String} {args : Array Value} {w : World} {R : Value→World→Prop} {l : Nat} (h : Rows P row args w R) : RowsIn (Fence.wide.inRound l) n P row args w R :=
  fun c cs _=>let ⟨v,w',r,s⟩:=h c cs; ⟨v,w',r,stepsIn_wide.2 s⟩
theorem XY {P : Program} {ops : Array Oper} {Q Q' : Exit→Act→World→Prop} {i : Nat} {K K' : Act→World→Prop} {a : Act} {w : World} {l n : Nat}
    (hnd : ∀ o,ops[i]? = some o→∀ c,o.op≠.defer c) (hQ : ∀ c a w,¬ Q (.panic c) a w) (hlo : ¬ LetsOut Q) (hK : ∀ a w,K a w→K' a w)
    (h : wpOp P ops Q i K a w) : wpOpIn (Fence.wide.inRound l) n P ops Q' i K' a w:=by
  unfold wpOp at h
  unfold wpOpIn
  cases ho : ops[i]? with
  | none=>simp only [ho] at h ⊢; exact hK _ _ h
  | some o =>
    simp only [ho] at h ⊢
    split
    · rename_i hw
      rw [if_pos hw] at h
      rcases h with h | h
      · refine ⟨fun _ _=>trivial,?_⟩
        rw [Oper.semAt_eq _ _ _ (hnd o ho)]
        unfold Oper.wp at h
        generalize (execOp a.eval o).run P w = r at h ⊢
        match r,h with
        | .ok (.value u) w',h=>exact hK _ _ h
        | .ok .skip w',h=>exact hK _ _ h
        | .ok (.defer d) w',h=>exact hK _ _ h
        | .ok (.enter f args) w',h =>
          refine ⟨fun hd=>(by cases hd),CallsIn.inRound l (callsIn_wide.2 (Calls.mono h fun e w'' he=>?_))⟩
          match e,he with
          | .returned u,he=>exact hK _ _ he
          | .panicked c,he=>exact (hQ _ _ _ he).elim
          | .outgrown,he=>exact (hlo he).elim
        | .ok (.row row args) w',h=>exact ⟨fun hd=>(by cases hd),RowsIn.mono (UA h) fun v w'' he=>hK _ _ he⟩
        | .halt (.panic u) w',h=>exact (hQ _ _ _ h).elim
      · exact (hlo h.2).elim
    · rename_i hw
      rw [if_neg hw] at h
      exact ⟨fun _ _=>trivial,hK _ _ h⟩
theorem I8 {P : Program} {ops : Array Oper} {Q Q' : Exit→Act→World→Prop} {l n : Nat}
    (hnd : ∀ (i : Nat) (o : Oper),ops[i]? = some o→∀ c,o.op≠.defer c) (hQ : ∀ c a w,¬ Q (.panic c) a w) (hlo : ¬ LetsOut Q) (hN : ∀ a w,Q .normal a w→Q' .normal a w) :
    ∀ {fuel : Nat} {listed : Array Bool} {a : Act} {w : World},wpAny P .any ops Q fuel listed a w→wpAnyIn (Fence.wide.inRound l) n P .any ops Q' fuel listed a w
  | 0,_,_,_,h=>⟨h.1,hN _ _ h.2⟩
  | fuel + 1,_,_,_,h=>⟨fun hr=>hN _ _ (h.1 hr),fun i hi=>XY (hnd i) hQ hlo (fun _ _ h=>I8 hnd hQ hlo hN h) (h.2 i hi)⟩
def atEnd (K : Act→World→Prop) : Exit→Act→World→Prop
  | .normal,a,w=>K a w
  | _,_,_=>False
theorem Un {P : Program} {ops : Array Oper} {Q : Exit→Act→World→Prop} {S : World→Prop} {l n id : Nat} {a : Act} {w : World} (hm : P.follows .mixedOrders = true)
    (hnd : (ops.all fun o=>match o.op with | .defer _=>false | _=>true) = true)
    {N : Nat} (hN : ops.size = N) (h : wpAnyH P .any ops (atEnd fun a w=>Q .normal a w) S N (Array.replicate N false) a w.drew) : (Code.region id ops true).wpIn (Fence.wide.inRound l) n P Q a w:=by
  subst hN
  refine wpIn_region_any hm ?_
  refine I8 (Q:=atEnd fun a w=>Q .normal a w) (Q':=Q) (w:=w.drew) (fun i o ho c hc=>?_) (fun _ _ _ h=>h) (fun ⟨_,_,h⟩=>h) (fun _ _ h=>h) (wpAny_of_held _ _ _ _ h)
  have:=Array.all_eq_true_iff_forall_mem.1 hnd o (Array.mem_of_getElem? ho)
  rw [hc] at this
  cases this
theorem aL {P : Program} {ops : Array Oper} {Q : Exit→Act→World→Prop} {S : World→Prop} {md : Region.Mode} {i d : Nat} {oi : Oper} {v : Value} {fuel : Nat} {listed aK : Array Bool} {tm : Array Value} {df : List Deferred} {w : World} (hi : ops[i]? = some oi)
    (hs : Region.noSelect ops = true) (hf : Region.free md ops listed i = true) (hr : (Region.ready md ops listed).contains i = true)
    (hQ : ∀ c a w,Q (.panic c) (a.put oi.dst v) w→Q (.panic c) a w) (hd : oi.dst = some d) (hl : listed.setIfInBounds i true = aK) (hS : S w) (hy : YieldsIf P ops S oi v { tmps:=tm,defers:=df })
    (h : wpAnyH P md ops Q S fuel aK { tmps:=tm.setIfInBounds d v,defers:=df } w) : wpAnyH P md ops Q S (fuel + 1) listed { tmps:=tm,defers:=df } w:=by
  refine wpAnyH_take hi hs hf hr hQ hy hS ?_
  rw [hd,hl]
  exact h
end M
set_option linter.unusedVariables false
set_option linter.unusedSimpArgs false
namespace Go.Proofs
structure bW where
  p : ByteArray
  a1 : Option Addr
  l1 : Nat
  c1 : Nat
  a2 : Option Addr
  l2 : Nat
  c2 : Nat
  s : Int
  a3 : Option Addr
  l3 : Nat
  c3 : Nat
  b : ByteArray
  t : Int
  k : Int
  q : Int
def bW.v (e : bW) : Nat→Value
  | 0=>.string e.p
  | 1=>.slice e.a1 e.l1 e.c1
  | 2=>.slice e.a2 e.l2 e.c2
  | 3=>.int .i64 e.s
  | 4=>.slice e.a3 e.l3 e.c3
  | 5=>.string e.b
  | 6=>.int .i64 e.t
  | 7=>.int .i64 e.k
  | _=>.int .i64 e.q
def bW.ob (e : bW) : Array Value:=#[.string e.p,.slice e.a1 e.l1 e.c1,.slice e.a2 e.l2 e.c2,.int .i64 e.s,.slice e.a3 e.l3 e.c3,.string e.b,.int .i64 e.t]
def bW.kp (e : bW) : Array Value:=#[.string e.p,.slice e.a1 e.l1 e.c1,.slice e.a2 e.l2 e.c2,.int .i64 e.s,.slice e.a3 e.l3 e.c3,.string e.b,.int .i64 e.t,.int .i64 e.k,.int .i64 e.q]
def bW.z : bW:=⟨⟨#[]⟩,none,0,0,none,0,0,0,none,0,0,⟨#[]⟩,0,0,0⟩
def p8 : Array Value:=#[.string ⟨#[]⟩,.slice none 0 0,.slice none 0 0,.int .i64 0,.slice none 0 0,.string ⟨#[]⟩,.int .i64 0]
end Go.Proofs
namespace M
open Go Go.RowKit Go.Proofs
theorem Kr [Bs] {P : Program} {f : FuncId} {xs : List X} {r : X}
    (h : ∀ w zl zb cs,cs.map C.er = xs→js w zl zb cs→kQ w zl zb→Calls P f (cs.map C.val).toArray w fun e w'=>∃ c : C,e = .returned c.val∧c.er = r∧Below w.heap.size w w'∧gJ w w' c) :
    AC P f xs fun r' ps=>r' = r∧ps = xs.map fun _=>.dead:=by
  intro w zl zb cs e hA gT
  refine (h w zl zb cs e hA gT).mono fun e' w' ⟨c,he,hc,hb,c1,c2,c3⟩=>?_
  have BN : Ext (fun b k=>∃ x∈cs,x.fp b k) w w':=⟨hb.os,hb.tape,hb.output,hb.size,fun b hl=>.inl (hb.block b hl)⟩
  refine ⟨c,cs.map fun x=>.dead x.val,zl,⟨he,by rw [List.map_map]; rfl,BN,⟨fun x hx'=>?_,fun x hx'=>?_,fun x hx' b k hf=>?_,fun b k hz=>Nat.lt_of_lt_of_le (hA.bJ b k (hz.imp id fun h=>h.elim)) hb.size,?_⟩,fun x hx' b k hf=>?_,fun _ _ h=>h,fun _ _ h=>.inl h⟩,hc,?_⟩
  · rcases List.mem_cons.1 hx' with rfl | hx'
    · exact c1 _
    · obtain ⟨y,_,rfl⟩:=List.mem_map.1 hx'; trivial
  · rcases List.mem_cons.1 hx' with rfl | hx'
    · exact c2
    · obtain ⟨y,_,rfl⟩:=List.mem_map.1 hx'; trivial
  · rcases List.mem_cons.1 hx' with rfl | hx'
    · have h1:=c3 b k hf
      exact ⟨fun hz=>by have:=hA.bJ b k (.inl hz); omega,fun hz=>hz⟩
    · obtain ⟨y,_,rfl⟩:=List.mem_map.1 hx'; exact hf.elim
  · refine List.pairwise_cons.2 ⟨fun x hx b k hf hf'=>?_,?_⟩
    · obtain ⟨y,_,rfl⟩:=List.mem_map.1 hx; exact hf'
    · refine List.pairwise_iff_getElem.2 fun i j hi hj _ b k hf=>?_
      obtain ⟨y,_,hy⟩:=List.mem_map.1 (List.getElem_mem hi)
      rw [← hy] at hf
      exact hf.elim
  · rcases List.mem_cons.1 hx' with rfl | hx'
    · exact .inr (c3 b k hf)
    · obtain ⟨y,_,rfl⟩:=List.mem_map.1 hx'; exact hf.elim
  · rw [← e]
    simp [List.map_map,Function.comp_def,C.er]
theorem Uw {w w' : World} {Z Z' : Md→Nat→Nat→Prop} {B sz len cap : Nat} {A : Option Ad} {e : Nat→Nat→C} (hs : ∀ i j,i < len→j < sz→∃ s,e i j = .str s)
    (h : (C.row .own sz A len cap e).ok w Z) (hB : ∀ b k,(C.row .own sz A len cap e).fp b k→B≤b)
    (hk : ∀ b arr t fz,B≤b→w.heap[b]? = some (.cells arr t fz)→w'.heap[b]? = some (.cells arr t fz)) : (C.row .own sz A len cap e).ok w' Z':=by
  obtain ⟨h1,h2,h3,h4,h5⟩:=h
  have hA : ∀ g o,A = some (g,o,none)→B≤g:=fun g o e=>hB g 0 ⟨rfl,.inl ⟨o,e⟩⟩
  refine ⟨h1,fun i j hi hj=>?_,fun i j hi hj=>?_,fun _=>?_,h5⟩
  · obtain ⟨g,o,e1,e2,e3⟩:=h2 i j hi hj
    refine ⟨g,o,e1,?_,fun hm=>(hm rfl).elim⟩
    unfold World.cell? at e2 ⊢
    simp only at e2 ⊢
    cases hg : w.heap[g]? with
    | none=>rw [hg] at e2; simp at e2
    | some ob =>
      cases ob with
      | cells arr t fz=>rw [hk g arr t fz (hA g o e1) hg]; rw [hg] at e2; exact e2
      | _=>rw [hg] at e2; simp at e2
  · obtain ⟨a1,a2,a3,a4⟩:=h3 i j hi hj
    obtain ⟨s,hs⟩:=hs i j hi hj
    refine ⟨a1,a2,a3,?_⟩
    rw [hs] at a4 ⊢
    exact a4
  · rcases h4 rfl with h4 | ⟨g,o,arr,t,fz,e1,e2,e3,e4⟩
    · exact .inl h4
    · refine .inr ⟨g,o,arr,t,fz,e1,hk g arr t fz (hA g o e1) e2,e3,fun k k1 k2=>?_⟩
      have:=e4 k k1 k2
      unfold World.frozen? at this ⊢
      simp only at this ⊢
      rw [e2] at this
      rw [hk g arr t fz (hA g o e1) e2]
      exact this
theorem wI {c : C} {xs : List X} (h : c.er = .agg xs) : ∃ f,c = .agg xs.length f∧∀ j x,xs[j]? = some x→(f j).er = x:=by
  cases c with
  | agg n f =>
    simp only [C.er,X.agg.injEq] at h
    have hn : n = xs.length:=by rw [← h]; simp
    subst hn
    refine ⟨f,rfl,fun j x hj=>?_⟩
    obtain ⟨hl,_⟩:=List.getElem?_eq_some_iff.1 hj
    rw [← h] at hj
    simp [hl] at hj
    exact hj
  | _=>simp [C.er] at h
theorem Nx {c : C} {m : Md} {xs : List X} (h : c.er = .ptr m xs) : ∃ g o f,c = .ptr m g o xs.length f∧∀ j x,xs[j]? = some x→(f j).er = x:=by
  cases c with
  | ptr m' g o n f =>
    simp only [C.er,X.ptr.injEq] at h
    obtain ⟨rfl,h⟩:=h
    have hn : n = xs.length:=by rw [← h]; simp
    subst hn
    refine ⟨g,o,f,rfl,fun j x hj=>?_⟩
    obtain ⟨hl,_⟩:=List.getElem?_eq_some_iff.1 hj
    rw [← h] at hj
    simp [hl] at hj
    exact hj
  | _=>simp [C.er] at h
theorem Ux {sz len : Nat} {e : Nat→Nat→C} {rows : List (List X)} (hl : len = rows.length) (h : ∀ i,i < len→rows[i]? = some ((List.range sz).map fun j=>(e i j).er)) (hr : ∀ r∈rows,∀ x∈r,∃ s,x = .str s) : ∀ i j,i < len→j < sz→∃ s,e i j = .str s:=by
  intro i j hi hj
  have h1:=h i hi
  obtain ⟨s,hs⟩:=hr _ (List.mem_of_getElem? h1) (e i j).er (List.mem_map.2 ⟨j,List.mem_range.2 hj,rfl⟩)
  exact ⟨s,iV hs⟩
theorem Ii (l : List ah) : ∀ r∈l.map eS,∀ x∈r,∃ s,x = .str s:=by
  intro r hr x hx
  obtain ⟨s,_,rfl⟩:=List.mem_map.1 hr
  simp at hx
  exact ⟨_,hx⟩
theorem Uz (l : List aG) : ∀ r∈l.map aD,∀ x∈r,∃ s,x = .str s:=by
  intro r hr x hx
  obtain ⟨s,_,rfl⟩:=List.mem_map.1 hr
  simp at hx
  rcases hx with rfl | rfl <;> exact ⟨_,rfl⟩
theorem D9 {w w' : World} {Z Z' : Md→Nat→Nat→Prop} {B sz : Nat} {c : C} {rows : List (List X)} (hr : ∀ r∈rows,∀ x∈r,∃ s,x = .str s) (h : c.er = .row .own sz rows) (hok : c.ok w Z) (hB : ∀ b k,c.fp b k→B≤b)
    (hk : ∀ b arr t fz,B≤b→w.heap[b]? = some (.cells arr t fz)→w'.heap[b]? = some (.cells arr t fz)) : c.ok w' Z':=by
  obtain ⟨A,len,cap,e,rfl,hlen,hrow⟩:=sL h
  exact Uw (Ux hlen hrow hr) hok hB hk
theorem Te {w w' : World} {Z Z' : Md→Nat→Nat→Prop} {B : Nat} {c : C} {o : Ob} (h : c.er = .agg (bu .own o)) (hok : c.ok w Z) (hB : ∀ b k,c.fp b k→B≤b)
    (hk : ∀ b arr t fz,B≤b→w.heap[b]? = some (.cells arr t fz)→w'.heap[b]? = some (.cells arr t fz)) : c.ok w' Z':=by
  obtain ⟨f,rfl,hf⟩:=wI h
  obtain ⟨h1,h2⟩:=hok
  have bq : ∀ j,j < 7→∀ b k,(f j).fp b k→B≤b:=fun j hj b k hh=>hB b k ⟨j,hj,hh⟩
  refine ⟨fun j hj=>⟨(h1 j hj).1,?_⟩,h2⟩
  have GM : j < 7:=hj
  have ho:=(h1 j hj).2
  have hb:=bq j GM
  have e0:=hf 0 _ rfl
  have e1:=hf 1 _ rfl
  have e2:=hf 2 _ rfl
  have e3:=hf 3 _ rfl
  have e4:=hf 4 _ rfl
  have e5:=hf 5 _ rfl
  have e6:=hf 6 _ rfl
  match j,GM with
  | 0,_=>rw [iV e0] at ho ⊢; exact ho
  | 1,_=>exact D9 (Ii _) e1 ho hb hk
  | 2,_=>exact D9 (Ii _) e2 ho hb hk
  | 3,_=>rw [kY e3]; trivial
  | 4,_=>exact D9 (Uz _) e4 ho hb hk
  | 5,_=>rw [iV e5] at ho ⊢; exact ho
  | 6,_=>rw [kY e6]; trivial
theorem nB {c : C} {m : Md} {z : Nat} {rows : List (List X)} (h : c.er = .row m z rows) : ∃ A len cap,c.val = .slice A len cap:=by
  obtain ⟨A,len,cap,e,rfl,_,_⟩:=sL h
  exact ⟨_,_,_,rfl⟩
theorem Nv {f : Nat→C} {k : Kp} {m : Md} (h : ∀ j x,(aQ m k)[j]? = some x→(f j).er = x) : ∃ x : bW,(∀ j,j < 9→(f j).val = x.v j)∧x.p = ⟨k.obj.path.toArray⟩:=by
  obtain ⟨A1,l1,c1,h1⟩:=nB (h 1 _ rfl)
  obtain ⟨A2,l2,c2,h2⟩:=nB (h 2 _ rfl)
  obtain ⟨A4,l4,c4,h4⟩:=nB (h 4 _ rfl)
  refine ⟨⟨⟨k.obj.path.toArray⟩,A1,l1,c1,A2,l2,c2,k.obj.resp.status,A4,l4,c4,⟨k.obj.resp.body.toArray⟩,k.obj.t,k.at_,k.seq⟩,fun j hj=>?_,rfl⟩
  match j,hj with
  | 0,_=>rw [iV (h 0 _ rfl)]; rfl
  | 1,_=>exact h1
  | 2,_=>exact h2
  | 3,_=>rw [kY (h 3 _ rfl)]; rfl
  | 4,_=>exact h4
  | 5,_=>rw [iV (h 5 _ rfl)]; rfl
  | 6,_=>rw [kY (h 6 _ rfl)]; rfl
  | 7,_=>rw [kY (h 7 _ rfl)]; rfl
  | 8,_=>rw [kY (h 8 _ rfl)]; rfl
theorem KD {W : World} {zl zb : Nat→Nat→Prop} {l : List C} (h : ∀ x∈l,x.ok W (Zf zl zb)∧x.bare∧∀ b k,¬ x.fp b k) (hz : ∀ b k,zl b k∨zb b k→b < W.heap.size) : js W zl zb l :=
  ⟨fun x hx=>(h x hx).1,fun x hx=>(h x hx).2.1,fun x hx b k hf=>((h x hx).2.2 b k hf).elim,hz,List.pairwise_iff_getElem.2 fun i j hi hj _ b k hf=>((h _ (List.getElem_mem hi)).2.2 b k hf).elim⟩
theorem Bz [Bs] {w W : World} {zl zb : Nat→Nat→Prop} (h : kQ w zl zb) (hb : Below w.heap.size w W) : kQ W zl zb:=fun b hb0=>by
  obtain ⟨h1,h2⟩:=h b hb0
  have hlt : b < w.heap.size:=by
    rcases Nat.lt_or_ge b w.heap.size with h' | h'
    · exact h'
    · rw [Array.getElem?_eq_none h'] at h1
      have:=Array.getElem?_eq_getElem hb0
      rw [← h1] at this
      cases this
  exact ⟨(hb.block b hlt).trans h1,h2⟩
theorem Dq {w W : World} {zl zb : Nat→Nat→Prop} (hz : ∀ b k,zl b k∨zb b k→b < w.heap.size) (hb : Below w.heap.size w W) {c : C} (h : c.ok w (Zf zl zb)) : c.ok W (Zf zl zb) :=
  C.dx (S:=fun _ _=>False) (⟨hb.os,hb.tape,hb.output,hb.size,fun b hl=>.inl (hb.block b hl)⟩ : Ext (fun _ _=>False) w W) (fun _ _ _ _ hs=>hs) c (fun _ _ _ hs=>hs) h
theorem AR [Bs] {P : Program} {f : FuncId} {xs : List X} {r0 : X} (hac : AC P f xs fun r _=>r = r0) {W : World} {zl zb : Nat→Nat→Prop} {cs : List C} (he : cs.map C.er = xs) (hl : ∀ x∈cs,x.ok W (Zf zl zb)∧x.bare∧∀ b k,¬ x.fp b k) (hz : ∀ b k,zl b k∨zb b k→b < W.heap.size) (hg : kQ W zl zb) :
    Calls P f (cs.map C.val).toArray W fun e w'=>∃ r : C,e = .returned r.val∧r.er = r0∧Below W.heap.size W w'∧(∃ Z,r.ok w' Z)∧r.bare∧∀ b k,r.fp b k→W.heap.size≤b :=
  (hac W zl zb cs he (KD hl hz) hg).mono fun e w' ⟨r,ps,az,hD,hr⟩ =>
    ⟨r,hD.ends,hr,(hD.ext.mono (S':=fun _ _=>False) fun b k ⟨x,hx,hf⟩ _=>(hl x hx).2.2 b k hf).below,⟨_,hD.all.ok _ (List.mem_cons_self ..)⟩,hD.all.bare _ (List.mem_cons_self ..),fun b k hf=>by
      rcases hD.dom r (List.mem_cons_self ..) b k hf with ⟨y,hy,hf⟩ | h
      · exact ((hl y hy).2.2 b k hf).elim
      · exact h⟩
theorem Td {c : C} {m : Md} {o : Ob} (h : c.er = .agg (bu m o)) : ∃ O : bW,c.val = .agg O.ob:=by
  obtain ⟨f,rfl,hf⟩:=wI h
  obtain ⟨A1,l1,c1,h1⟩:=nB (hf 1 _ rfl)
  obtain ⟨A2,l2,c2,h2⟩:=nB (hf 2 _ rfl)
  obtain ⟨A4,l4,c4,h4⟩:=nB (hf 4 _ rfl)
  refine ⟨⟨⟨o.path.toArray⟩,A1,l1,c1,A2,l2,c2,o.resp.status,A4,l4,c4,⟨o.resp.body.toArray⟩,o.t,0,0⟩,?_⟩
  have e0:=iV (hf 0 _ rfl)
  have e3:=kY (hf 3 _ rfl)
  have e5:=iV (hf 5 _ rfl)
  have e6:=kY (hf 6 _ rfl)
  simp [C.val,bW.ob,List.range_succ,h1,h2,h4,e0,e3,e5,e6]
theorem NP {α : Type} {p : α→Bool} {l : List α} {i : Nat} {hi : i < l.length} (h : p l[i] = true) (h2 : ∀ j (hj : j < l.length),i < j→p l[j] = false) : l.reverse.find? p = some l[i]:=by
  have e : l = l.take i ++ l[i] :: l.drop (i + 1):=by rw [← List.drop_eq_getElem_cons hi,List.take_append_drop]
  have hd : ∀ x∈(l.drop (i + 1)).reverse,¬ p x = true:=by
    intro x hx
    obtain ⟨j,hj,rfl⟩:=List.getElem_of_mem (List.mem_reverse.1 hx)
    rw [List.getElem_drop]
    rw [List.length_drop] at hj
    simp [h2 (i + 1 + j) (by omega) (by omega)]
  conv=>lhs; rw [e]
  rw [List.reverse_append,List.reverse_cons,List.append_assoc,List.find?_append,List.find?_eq_none.2 hd]
  simp [h]
def zO : Ob:=⟨[],[],[],⟨0,[],[]⟩,0⟩
def qh (pS : List ah→List ah→List aG→Bool) (pH : List Bn→Ob→Bool) (s : Sh) (q : Rq) : Option Ob :=
  (s.au.reverse.find? fun k=>decide (k.obj.path = q.path) && pS k.obj.names k.obj.values q.fields && !pH s.aP k.obj).map fun k=>k.obj
def qg (pS : List ah→List ah→List aG→Bool) (pH : List Bn→Ob→Bool) (s : Sh) (q : Rq) : X:=.ak [.agg (bu .own ((qh pS pH s q).getD zO)),.bool (qh pS pH s q).isSome]
open Classical in
noncomputable def sO (pS : List ah→List ah→List aG→Bool) (pH : List Bn→Ob→Bool) (xs : List X) : Option X :=
  if h : ∃ r,∃ s q,xs = [.ptr .af (bk .af s),.agg (cw .af q)]∧bP s≤1073741824∧cx q≤1073741824∧r = qg pS pH s q then some h.choose else none
def zF (j : Nat) : C:=if j = 0∨j = 5 then .str ⟨#[]⟩ else if j = 3∨j = 6 then .int .i64 0 else .row .own (if j = 4 then 2 else 1) none 0 0 fun _ _=>.dead undef
def zC : C:=.agg 7 zF
theorem X4 : zC.er = .agg (bu .own zO):=by simp [zC,zF,C.er,List.range_succ,zO]
theorem X6 : zC.val = .agg p8:=by simp [zC,zF,C.val,List.range_succ,p8]
theorem Je (j b k : Nat) : ¬ (zF j).fp b k:=by
  unfold zF
  split
  · exact fun h=>h
  · split
    · exact fun h=>h
    · rintro ⟨_,⟨o,h⟩ | ⟨i,_,hi,_⟩⟩
      · cases h
      · omega
theorem X5 {w w' : World} : gJ w w' zC:=by
  refine ⟨fun Z=>⟨fun j hj=>?_,fun j hj b k hf=>(Je j b k hf).elim⟩,fun j hj=>?_,fun b k ⟨j,hj,hf⟩=>(Je j b k hf).elim⟩
  · unfold zF
    split
    · exact ⟨trivial,by show (0 : Nat)≤_; omega⟩
    · split
      · exact ⟨trivial,trivial⟩
      · exact ⟨trivial,Nat.le_refl _,fun i j hi=>by omega,fun i j hi=>by omega,fun _=>.inl ⟨rfl,rfl⟩,fun i j hi=>by omega⟩
  · unfold zF
    split
    · trivial
    · split <;> trivial
theorem Gd {w w' : World} {c : C} {b : Bool} (h : gJ w w' c) (hn : c.dJ) : gJ w w' (jq [c,.bool b]):=by
  refine ⟨fun Z=>⟨fun j hj=>?_,fun j hj x k hf j' hj' hne hf'=>?_⟩,fun j hj=>?_,fun x k ⟨j,hj,hf⟩=>?_⟩
  · match j,hj with
    | 0,_=>exact ⟨hn,h.1 Z⟩
    | 1,_=>exact ⟨trivial,trivial⟩
  · match j,hj,j',hj' with
    | 0,_,1,_=>exact hf'
    | 1,_,_,_=>exact hf
    | 0,_,0,_=>exact hne rfl
  · match j,hj with
    | 0,_=>exact h.2.1
    | 1,_=>trivial
  · match j,hj with
    | 0,_=>exact h.2.2 x k hf
    | 1,_=>exact hf.elim
theorem S1 [Bs] {P : Program} {f0 : FuncId} {g : List X→Option X}
    (h : ∀ xs r,g xs = some r→∀ w zl zb cs,cs.map C.er = xs→js w zl zb cs→kQ w zl zb→Calls P f0 (cs.map C.val).toArray w fun e w'=>∃ c : C,e = .returned c.val∧c.er = r∧Below w.heap.size w w'∧gJ w w' c) : (dw f0 g).Sound P:=fun f xs o e=>by
  unfold dw at e
  split at e
  · rename_i hf
    subst hf
    split at e
    · rename_i r hr
      cases e
      exact Kr (h xs r hr)
    · cases e
  · cases e
theorem UL {c : C} (h : c.bU) : c.bare:=by cases c <;> first | trivial | exact h.elim
theorem NR {c : C} (h : c.bU) (hf : c.fits .af) (b k : Nat) : ¬ c.fp b k:=by
  cases c with
  | row m sz A len cap e =>
    rintro ⟨rfl,_⟩
    rcases hf with h | h | ⟨_,h⟩ <;> cases h
  | ptr=>exact h.elim
  | agg=>exact h.elim
  | ak=>exact h.elim
  | _=>exact fun h=>h
theorem EJ {c : C} {z : Nat} {rows : List (List X)} (h : c.er = .row .af z rows) (b k : Nat) : ¬ c.fp b k:=by
  obtain ⟨A,len,cap,e,rfl,_,_⟩:=sL h
  rintro ⟨h,_⟩
  cases h
theorem Ig {c : C} {m : Md} {z : Nat} {rows : List (List X)} (h : c.er = .row m z rows) : c.bare:=by
  obtain ⟨A,len,cap,e,rfl,_,_⟩:=sL h
  trivial
theorem NQ [Bs] {P : Program} {f0 fs fh fc : FuncId} {pS : List ah→List ah→List aG→Bool} {pH : List Bn→Ob→Bool}
    (hS : ∀ (ns vs : List ah) (fl : List aG),ns.length≤1073741824→vs.length≤1073741824→fl.length≤1073741824→AC P fs [.row .af 1 (ns.map eS),.row .af 1 (vs.map eS),.row .af 2 (fl.map aD)] fun r _=>r = .bool (pS ns vs fl))
    (hH : ∀ (l : List Bn) (o : Ob),wL aN l≤1073741824→bG o≤1073741824→AC P fh [.row .af 4 (l.map bg),.agg (bu .af o)] fun r _=>r = .bool (pH l o))
    (hC : ∀ (o : Ob),bG o≤1073741824→AC P fc [.agg (bu .af o)] fun r _=>r = .agg (bu .own o))
    (hw : ∀ (g o : Nat) (A Ab Aq : Option Addr) (len cap lb cb lq cq : Nat) (qm : Int) (qs qb : ByteArray) (E : Nat→bW) (pS pH : Nat→Bool) (R : Nat→bW→World→World→Prop) (w : World),
      len≤1073741824→g < w.heap.size→w.cell? ⟨g,o + 2,none⟩ = some (.slice A len cap)→w.cell? ⟨g,o + 3,none⟩ = some (.slice Ab lb cb) →
      (∀ i j,i < len→j < 9→∃ g o,A = some ⟨g,o,none⟩∧g < w.heap.size∧w.cell? ⟨g,o + i * 9 + j,none⟩ = some ((E i).v j)) →
      (∀ i,i < len→∀ W,Below w.heap.size w W→Calls P fs #[.slice (E i).a1 (E i).l1 (E i).c1,.slice (E i).a2 (E i).l2 (E i).c2,.slice Aq lq cq] W fun e W'=>e = .returned (.bool (pS i))∧Below W.heap.size W W') →
      (∀ i,i < len→∀ W,Below w.heap.size w W→Calls P fh #[.slice Ab lb cb,.agg (E i).ob] W fun e W'=>e = .returned (.bool (pH i))∧Below W.heap.size W W') →
      (∀ i,i < len→∀ W,Below w.heap.size w W→Calls P fc #[.agg (E i).ob] W fun e W'=>∃ O : bW,e = .returned (.agg O.ob)∧Below W.heap.size W W'∧R i O W W') →
      Calls P f0 #[.pointer (some ⟨g,o,none⟩),.agg #[.int .i64 qm,.string qs,.slice Aq lq cq,.string qb]] w fun e W'=>Below w.heap.size w W' ∧
        ((e = .returned (.tuple #[.agg p8,.bool false])∧∀ i,i < len→¬ ((E i).p = qs∧pS i = true∧pH i = false)) ∨
         (∃ i O W1 W2,i < len∧e = .returned (.tuple #[.agg (bW.ob O),.bool true])∧((E i).p = qs∧pS i = true∧pH i = false)∧(∀ i',i < i'→i' < len→¬ ((E i').p = qs∧pS i' = true∧pH i' = false)) ∧
            Below w.heap.size w W1∧R i O W1 W2∧∀ b arr t fz,W1.heap.size≤b→W2.heap[b]? = some (.cells arr t fz)→W'.heap[b]? = some (.cells arr t fz)))) :
    (dw f0 (sO pS pH)).Sound P :=
  S1 fun xs r hg w zl zb cs hx hA gT=>by
    unfold sO at hg
    split at hg
    · rename_i h
      obtain ⟨s,q,hxs,cT,fF,hr⟩:=h.choose_spec
      cases hg
      rw [hr]
      rw [hxs] at hx
      obtain ⟨c1,r1,rfl,h1,h2⟩:=map_cons hx
      obtain ⟨c2,r2,rfl,h3,h4⟩:=map_cons h2
      obtain rfl:=map_nil h4
      obtain ⟨g,o,f,rfl,hf⟩:=Nx h1
      obtain ⟨fq,rfl,jB⟩:=wI h3
      have Tm:=hA.ok _ (List.mem_cons_self ..)
      have Tn:=hA.ok _ (List.mem_cons_of_mem _ (List.mem_cons_self ..))
      have xA:=hA.bJ
      obtain ⟨k1,k2,k3,k4⟩:=Tm
      obtain ⟨q1,q2⟩:=Tn
      obtain ⟨A,len,cap,e,eR,hlen,hrow⟩:=sL (hf 2 _ rfl)
      obtain ⟨Ab,lb,cb,G5⟩:=nB (hf 3 _ rfl)
      obtain ⟨Aq,lq,cq,G7⟩:=nB (jB 2 _ rfl)
      have RP:=kY (jB 0 _ rfl)
      have hq1:=iV (jB 1 _ rfl)
      have RQ:=iV (jB 3 _ rfl)
      have HM:=(k3 2 (by show 2 < 6; omega)).2.2
      rw [eR] at HM
      obtain ⟨m1,m2,m3,m4,m5⟩:=HM
      have hlo : len = s.au.length:=by rw [hlen]; simp
      have jF : bP s = cH s.bz + wL bt s.au + wL aN s.aP:=rfl
      have Cf : cx q = q.path.length + wL aI q.fields + q.body.length:=rfl
      have mR:=bw (w:=bt) s.au
      have qn:=bw (w:=aI) q.fields
      have hent : ∀ i (hi : i < len),∀ j x,(aQ .af (s.au[i]'(by omega)))[j]? = some x→(e i j).er = x:=by
        intro i hi j x hj
        have h5:=hrow i hi
        rw [List.getElem?_map,List.getElem?_eq_getElem (by omega)] at h5
        simp only [Option.map_some,Option.some.injEq] at h5
        rw [h5] at hj
        obtain ⟨hl,_⟩:=List.getElem?_eq_some_iff.1 hj
        simp only [List.length_map,List.length_range] at hl
        simp only [List.getElem?_map,List.getElem?_range hl,Option.map_some,Option.some.injEq] at hj
        exact hj
      have hE : ∀ i (hi : i < len),∃ x : bW,(∀ j,j < 9→(e i j).val = x.v j)∧x.p = ⟨(s.au[i]'(by omega)).obj.path.toArray⟩:=fun i hi=>Nv (hent i hi)
      obtain ⟨E,sW⟩ : ∃ E : Nat→bW,∀ i (hi : i < len),(∀ j,j < 9→(e i j).val = (E i).v j)∧(E i).p = ⟨(s.au[i]'(by omega)).obj.path.toArray⟩ :=
        ⟨fun i=>if h : i < len then (hE i h).choose else bW.z,fun i hi=>by simp only [dif_pos hi]; exact (hE i hi).choose_spec⟩
      have qo : ∀ W,Below w.heap.size w W→∀ i,i < len→∀ j,j < 9→(e i j).ok W (Zf zl zb)∧(e i j).bare∧∀ b k,¬ (e i j).fp b k:=fun W hb i hi j hj =>
        ⟨Dq xA hb (m3 i j hi hj).2.2.2,UL (m3 i j hi hj).2.1,NR (m3 i j hi hj).2.1 (m3 i j hi hj).2.2.1⟩
      have Ci : ∀ W,Below w.heap.size w W→∀ b k,zl b k∨zb b k→b < W.heap.size:=fun W hb b k h=>Nat.lt_of_lt_of_le (xA b k h) hb.size
      have RR : ∀ W,Below w.heap.size w W→(fq 2).ok W (Zf zl zb)∧(fq 2).bare∧∀ b k,¬ (fq 2).fp b k:=fun W hb=>⟨Dq xA hb (q1 2 (by show 2 < 4; omega)).2,Ig (jB 2 _ rfl),EJ (jB 2 _ rfl)⟩
      have Q8 : ∀ W,Below w.heap.size w W→(f 3).ok W (Zf zl zb)∧(f 3).bare∧∀ b k,¬ (f 3).fp b k:=fun W hb=>⟨Dq xA hb (k3 3 (by show 3 < 6; omega)).2.2,Ig (hf 3 _ rfl),EJ (hf 3 _ rfl)⟩
      have xk : ∀ i (hi : i < len),(C.agg 7 (e i)).er = .agg (bu .af (s.au[i]'(by omega)).obj)∧(C.agg 7 (e i)).val = .agg (E i).ob:=by
        intro i hi
        obtain ⟨v1,v2⟩:=sW i hi
        have hn:=hent i hi
        refine ⟨?_,?_⟩
        · have e0:=hn 0 _ rfl
          have e1:=hn 1 _ rfl
          have e2:=hn 2 _ rfl
          have e3:=hn 3 _ rfl
          have e4:=hn 4 _ rfl
          have e5:=hn 5 _ rfl
          have e6:=hn 6 _ rfl
          simp only [C.er,List.range_succ,List.range_zero,List.nil_append,List.cons_append,List.map_cons,List.map_nil,e0,e1,e2,e3,e4,e5,e6]
          rfl
        · have u0:=v1 0 (by decide)
          have u1:=v1 1 (by decide)
          have u2:=v1 2 (by decide)
          have u3:=v1 3 (by decide)
          have u4:=v1 4 (by decide)
          have u5:=v1 5 (by decide)
          have u6:=v1 6 (by decide)
          simp only [C.val,List.range_succ,List.range_zero,List.nil_append,List.cons_append,List.map_cons,List.map_nil,u0,u1,u2,u3,u4,u5,u6,bW.v,bW.ob]
      have hal : ∀ W,Below w.heap.size w W→∀ i,i < len→(C.agg 7 (e i)).ok W (Zf zl zb)∧(C.agg 7 (e i)).bare∧∀ b k,¬ (C.agg 7 (e i)).fp b k:=fun W hb i hi =>
        ⟨⟨fun j hj=>⟨(m3 i j hi (by omega)).1,(qo W hb i hi j (by omega)).1⟩,fun j hj b k bq=>((qo W hb i hi j (by omega)).2.2 b k bq).elim⟩,fun j hj=>(qo W hb i hi j (by omega)).2.1,fun b k ⟨j,hj,bq⟩=>(qo W hb i hi j (by omega)).2.2 b k bq⟩
      have Ce : ∀ i (hi : i < len),bG (s.au[i]'(by omega)).obj≤1073741824:=fun i hi=>by
        have:=vI (List.getElem_mem (show i < s.au.length by omega))
        omega
      have key:=hw g o (A.map fun q=>⟨q.1,q.2.1,q.2.2⟩) Ab Aq len cap lb cb lq cq q.method ⟨q.path.toArray⟩ ⟨q.body.toArray⟩ E
        (fun i=>(s.au[i]?).elim false fun k=>pS k.obj.names k.obj.values q.fields) (fun i=>(s.au[i]?).elim false fun k=>pH s.aP k.obj)
        (fun i O W W'=>∃ k,s.au[i]? = some k∧∃ c : C,c.er = .agg (bu .own k.obj)∧c.val = .agg O.ob∧(∃ Z,c.ok W' Z)∧c.bare∧∀ b k,c.fp b k→W.heap.size≤b)
        w (by omega) k2 ?k1 ?k2 ?k3 ?k4 ?k5 ?k6
      · have ha : ([C.ptr .af g o (bk .af s).length f,C.agg (cw .af q).length fq].map C.val).toArray = #[.pointer (some ⟨g,o,none⟩),.agg #[.int .i64 q.method,.string ⟨q.path.toArray⟩,.slice Aq lq cq,.string ⟨q.body.toArray⟩]]:=by
          simp [C.val,List.range_succ,RP,hq1,G7,RQ]
        rw [ha]
        have B3 : ∀ i (hi : i < s.au.length),((E i).p = ⟨q.path.toArray⟩∧(s.au[i]?.elim false fun k=>pS k.obj.names k.obj.values q.fields) = true∧(s.au[i]?.elim false fun k=>pH s.aP k.obj) = false)↔(decide (s.au[i].obj.path = q.path) && pS s.au[i].obj.names s.au[i].obj.values q.fields && !pH s.aP s.au[i].obj) = true:=by
          intro i hi
          rw [(sW i (by omega)).2,List.getElem?_eq_getElem hi]
          simp only [Option.elim_some,Bool.and_eq_true,decide_eq_true_eq,Bool.not_eq_true',ByteArray.mk.injEq]
          constructor
          · rintro ⟨a1,a2,a3⟩
            exact ⟨⟨by simpa using congrArg Array.toList a1,a2⟩,a3⟩
          · rintro ⟨⟨a1,a2⟩,a3⟩
            exact ⟨by rw [a1],a2,a3⟩
        refine Calls.mono key fun e' w' ⟨hb,hres⟩=>?_
        rcases hres with ⟨rfl,hno⟩ | ⟨i,O,W1,W2,hi,rfl,hp,BT,hbW,⟨k,hk,c,h5,h6,⟨Z,h7⟩,h8,h9⟩,hst⟩
        · have hnone : qh pS pH s q = none:=by
            unfold qh
            rw [List.find?_eq_none.2]
            · rfl
            · intro k hk
              obtain ⟨i,hi,rfl⟩:=List.getElem_of_mem (List.mem_reverse.1 hk)
              exact fun h=>hno i (by omega) ((B3 i hi).2 h)
          refine ⟨jq [zC,.bool false],?_,?_,hb,Gd X5 trivial⟩
          · simp [jq,C.val,List.range_succ,X6]
          · unfold qg
            rw [hnone]
            simp [jq,C.er,List.range_succ,X4]
        · have hi2 : i < s.au.length:=by omega
          rw [List.getElem?_eq_getElem hi2] at hk
          cases hk
          have hsome : qh pS pH s q = some s.au[i].obj:=by
            unfold qh
            rw [NP (hi:=hi2) ((B3 i hi2).1 hp) (fun j hj hij=>by
              have:=BT j hij (by omega)
              rw [B3 j hj] at this
              simpa using this)]
            rfl
          have Rj : gJ w w' c:=by
            refine ⟨fun Z'=>Te h5 h7 h9 hst,h8,fun b k hf=>Nat.le_trans hbW.size (h9 b k hf)⟩
          refine ⟨jq [c,.bool true],?_,?_,hb,Gd Rj ?_⟩
          · simp [jq,C.val,List.range_succ,h6]
          · unfold qg
            rw [hsome]
            simp [jq,C.er,List.range_succ,h5]
          · obtain ⟨fo,rfl,_⟩:=wI h5
            trivial
      case k1 =>
        have:=(k1 2 (by show 2 < 6; omega)).1
        rw [eR] at this
        exact this
      case k2 =>
        have:=(k1 3 (by show 3 < 6; omega)).1
        rw [G5] at this
        exact this
      case k3 =>
        intro i j hi hj
        obtain ⟨g',o',e1,e2,_⟩:=m2 i j hi hj
        rw [(sW i hi).1 j hj] at e2
        refine ⟨g',o',by rw [e1]; rfl,?_,e2⟩
        rcases Nat.lt_or_ge g' w.heap.size with h | h
        · exact h
        · simp [World.cell?,Array.getElem?_eq_none h] at e2
      case k4 =>
        intro i hi W hb
        have ho:=Ce i hi
        have lC : ∀ o : Ob,bG o = o.path.length + wL wS o.names + wL wS o.values + cj o.resp:=fun _=>rfl
        have:=lC (s.au[i]'(by omega)).obj
        have n1:=bw (w:=wS) (s.au[i]'(by omega)).obj.names
        have n2:=bw (w:=wS) (s.au[i]'(by omega)).obj.values
        have hc:=AR (hS (s.au[i]'(by omega)).obj.names (s.au[i]'(by omega)).obj.values q.fields (by omega) (by omega) (by omega)) (W:=W) (zl:=zl) (zb:=zb) (cs:=[e i 1,e i 2,fq 2]) (by
          simp only [List.map_cons,List.map_nil]
          rw [hent i hi 1 _ rfl,hent i hi 2 _ rfl,jB 2 _ rfl]) (fun x hx=>by
          simp only [List.mem_cons,List.not_mem_nil,or_false] at hx
          rcases hx with rfl | rfl | rfl
          · exact qo W hb i hi 1 (by decide)
          · exact qo W hb i hi 2 (by decide)
          · exact RR W hb) (Ci W hb) (Bz gT hb)
        simp only [List.map_cons,List.map_nil,(sW i hi).1 1 (by decide),(sW i hi).1 2 (by decide),G7] at hc
        refine Calls.mono hc fun e' w' ⟨r,h5,h6,h7,_⟩=>⟨?_,h7⟩
        rw [h5,FQ h6,List.getElem?_eq_getElem (show i < s.au.length by omega)]
        rfl
      case k5 =>
        intro i hi W hb
        have hc:=AR (hH s.aP (s.au[i]'(by omega)).obj (by omega) (Ce i hi)) (W:=W) (zl:=zl) (zb:=zb) (cs:=[f 3,.agg 7 (e i)]) (by
          simp only [List.map_cons,List.map_nil]
          rw [(xk i hi).1,hf 3 _ rfl]) (fun x hx=>by
          simp only [List.mem_cons,List.not_mem_nil,or_false] at hx
          rcases hx with rfl | rfl
          · exact Q8 W hb
          · exact hal W hb i hi) (Ci W hb) (Bz gT hb)
        simp only [List.map_cons,List.map_nil,(xk i hi).2,G5] at hc
        refine Calls.mono hc fun e' w' ⟨r,h5,h6,h7,_⟩=>⟨?_,h7⟩
        rw [h5,FQ h6,List.getElem?_eq_getElem (show i < s.au.length by omega)]
        rfl
      case k6 =>
        intro i hi W hb
        have hc:=AR (hC (s.au[i]'(by omega)).obj (Ce i hi)) (W:=W) (zl:=zl) (zb:=zb) (cs:=[.agg 7 (e i)]) (by
          simp only [List.map_cons,List.map_nil]
          rw [(xk i hi).1]) (fun x hx=>by
          simp only [List.mem_cons,List.not_mem_nil,or_false] at hx
          rcases hx with rfl
          exact hal W hb i hi) (Ci W hb) (Bz gT hb)
        simp only [List.map_cons,List.map_nil,(xk i hi).2] at hc
        refine Calls.mono hc fun e' w' ⟨r,h5,h6,h7,h8,h9,h10⟩=>?_
        obtain ⟨O,hO⟩:=Td h6
        exact ⟨O,by rw [h5,hO],h7,_,List.getElem?_eq_getElem (show i < s.au.length by omega),r,h6,hO,h8,h9,h10⟩
    · cases hg
end M
set_option linter.unusedVariables false
set_option linter.unusedSimpArgs false
namespace M
open Go
theorem lO {α β : Type} {f : α→β} (hf : ∀ a b,f a = f b→a = b) : ∀ {l l' : List α},l.map f = l'.map f→l = l'
  | [],[],_=>rfl
  | [],_ :: _,h=>by cases h
  | _ :: _,[],h=>by cases h
  | a :: l,b :: l',h=>by
    simp only [List.map_cons,List.cons.injEq] at h
    rw [hf _ _ h.1,lO hf h.2]
theorem Bf (a b : ah) (h : eS a = eS b) : a = b:=by simpa using h
theorem FC (a b : aG) (h : aD a = aD b) : a = b:=by
  cases a; cases b
  simpa using h
theorem Nu (a b : Wr) (h : eW a = eW b) : a = b:=by
  cases a; cases b
  simpa using h
theorem Np (a b : Bn) (h : bg a = bg b) : a = b:=by
  cases a; cases b
  simpa using h
theorem Nr {m : Md} (a b : Rq) (h : cw m a = cw m b) : a = b:=by
  obtain ⟨a1,a2,a3,a4⟩:=a
  obtain ⟨b1,b2,b3,b4⟩:=b
  simp only [cw,List.cons.injEq,X.int.injEq,X.str.injEq,X.row.injEq,ByteArray.mk.injEq,true_and,and_true] at h
  obtain ⟨h1,h2,h3,h4⟩:=h
  rw [h1,lO FC h3,show a2 = b2 by simpa using h2,show a4 = b4 by simpa using h4]
theorem Nq {m : Md} (a b : Kp) (h : aQ m a = aQ m b) : a = b:=by
  obtain ⟨⟨a1,a2,a3,⟨a4,a5,a6⟩,a7⟩,a8,a9⟩:=a
  obtain ⟨⟨b1,b2,b3,⟨b4,b5,b6⟩,b7⟩,b8,b9⟩:=b
  simp only [aQ,List.cons.injEq,X.int.injEq,X.str.injEq,X.row.injEq,ByteArray.mk.injEq,true_and,and_true] at h
  obtain ⟨h1,h2,h3,h4,h5,h6,h7,h8,h9⟩:=h
  rw [show a1 = b1 by simpa using h1,lO Bf h2,lO Bf h3,h4,lO FC h5,show a6 = b6 by simpa using h6,h7,h8,h9]
theorem Ns {m : Md} (a b : Sh) (h : bk m a = bk m b) : a = b:=by
  obtain ⟨⟨a1,a2⟩,a3,a4,a5,a6⟩:=a
  obtain ⟨⟨b1,b2⟩,b3,b4,b5,b6⟩:=b
  simp only [bk,List.cons.injEq,X.int.injEq,X.row.injEq,true_and,and_true] at h
  obtain ⟨h1,h2,h3,h4,h5,h6⟩:=h
  rw [lO Bf h1,lO Nu h2,lO Nq h3,lO Np h4,h5,h6]
theorem NN (pS : List ah→List ah→List aG→Bool) (pH : List Bn→Ob→Bool) (s : Sh) (q : Rq) (hs : bP s≤1073741824) (hq : cx q≤1073741824) : sO pS pH [.ptr .af (bk .af s),.agg (cw .af q)] = some (qg pS pH s q):=by
  unfold sO
  have h : ∃ r,∃ s' q',([.ptr .af (bk .af s),.agg (cw .af q)] : List X) = [.ptr .af (bk .af s'),.agg (cw .af q')]∧bP s'≤1073741824∧cx q'≤1073741824∧r = qg pS pH s' q':=⟨_,s,q,rfl,hs,hq,rfl⟩
  rw [dif_pos h]
  obtain ⟨s',q',he,_,_,hr⟩:=h.choose_spec
  rw [hr]
  simp only [List.cons.injEq,X.ptr.injEq,X.agg.injEq,true_and,and_true] at he
  rw [Ns _ _ he.1,Nr _ _ he.2]
end M
