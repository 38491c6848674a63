/- A machine of values for loaded Go functions, sound for the calculus of calls; part 3; no conditions. -/
import Derived.Test.YtkpkgfollnfhcaaGreatDoorMb
import Derived.Sort.Grow
import Derived.Deep.Draws
import Derived.Lib.LaidTab
import Derived.MakeChecks
import Derived.Laws.BitsLemmas
import Derived.ChangeArms
import Derived.ChangeReads
import Derived.ChangeOld
import Derived.ChangeShapes
import Derived.SizedLaws
import Derived.RowKit
import Derived.Below
import Derived.Lib.ItoaNum
import Derived.Lib.TrimByte
import Derived.Lib.AtoiAllCases
import Derived.Lib.SplitLaws
import Derived.Lib.Join
import Derived.Lib.IndexMore
import Derived.HandedShaped
import Derived.Lib.Strings
import Derived.Lib.Slices
import Derived.Lib.Walk
import Derived.Stop.LaidErr
import Derived.RangeFuncNested
import Derived.RangeFuncCalls
import Derived.OrdersHeld
import Derived.OrdersIn
set_option linter.unusedSectionVars false
set_option linter.unusedVariables false
set_option linter.unusedSimpArgs false
set_option linter.unusedVariables false
set_option linter.unusedSimpArgs false
namespace M
open Go
section
variable {C C' : bz} {ok : FuncId→Bool}
theorem Ra {C : bz} {d : Option Nat} {s s' : ag} {f : FuncId} {xs : List X} (h : lg d s (C f xs) = some s') : ∃ o,C f xs = some o∧∀ C' : bz,C' f xs = some o→lg d s (C' f xs) = some s':=by
  cases ho : C f xs with
  | none=>rw [ho] at h; cases h
  | some o=>rw [ho] at h; exact ⟨o,rfl,fun C' h'=>by rw [h']; exact h⟩
theorem Q9 {C : bz} {d : Option Nat} {as : List (AV×PM)} {back : qC} {s' : ag} {f : FuncId} {xs : List X} (h : jW d as back (C f xs) = some s') : ∃ o,C f xs = some o∧∀ C' : bz,C' f xs = some o→jW d as back (C' f xs) = some s':=by
  cases ho : C f xs with
  | none=>rw [ho] at h; cases h
  | some o=>rw [ho] at h; exact ⟨o,rfl,fun C' h'=>by rw [h']; exact h⟩
theorem Dk {f : FuncId} {d : Option Nat} {as : List (AV×PM)} {fv : Option AV} {s s' : ag} (h : lN C f d as fv s = some s') :
    ∃ xs o,C f xs = some o∧∀ C' : bz,C' f xs = some o→lN C' f d as fv s = some s':=by
  unfold lN at h ⊢
  by_cases hb : X.bare.fG (bh as s).1 = true
  · simp only [if_pos hb] at h ⊢
    cases hm : cD as with
    | none =>
      simp only [hm] at h ⊢
      by_cases hc : oE (bh as s).2 fv f = true
      · simp only [if_pos hc] at h ⊢
        obtain ⟨o,h1,h2⟩:=Ra h
        exact ⟨_,o,h1,h2⟩
      · simp only [if_neg hc] at h; cases h
    | some xn =>
      obtain ⟨x,n⟩:=xn
      simp only [hm] at h ⊢
      unfold ku at h ⊢
      split at h
      · split at h
        · rename_i y back h1 h2
          simp only [h1,if_pos h2]
          obtain ⟨o,h1,h2⟩:=Q9 h
          exact ⟨_,o,h1,h2⟩
        · cases h
      · cases h
  · simp only [if_neg hb] at h; cases h
theorem DQ {o : bA} {s s' : ag} (h : bK C ok o s = some s') : (∀ C' : bz,bK C' ok o s = some s')∨∃ f xs r,C f xs = some r∧∀ C' : bz,C' f xs = some r→bK C' ok o s = some s':=by
  cases o with
  | call d f as =>
    obtain ⟨xs,o,h1,h2⟩:=Dk (C:=C) h
    exact .inr ⟨f,xs,o,h1,h2⟩
  | jA d x as =>
    simp only [bK] at h ⊢
    split at h
    · rename_i f caps hf
      split at h
      · rename_i hok
        obtain ⟨xs,o,h1,h2⟩:=Dk (C:=C) h
        refine .inr ⟨f,xs,o,h1,fun C' h'=>?_⟩
        simp only [if_pos hok]
        exact h2 C' h'
      · cases h
    · cases h
  | gO d f x as =>
    simp only [bK] at h ⊢
    split at h
    · rename_i cs h1
      split at h
      · rename_i h2
        simp only [if_pos h2]
        refine .inr ?_
        cases ho : C f (.agg (bk cs s).1 :: dM (bk cs s).2 .dead as (as.map fun _=>.dead)) with
        | none=>rw [ho] at h; cases h
        | some r=>rw [ho] at h; exact ⟨f,_,r,ho,fun C' h'=>by rw [h']; exact h⟩
      · cases h
    · cases h
  | _=>exact .inl fun _=>h
theorem DM {g : G} {s s' : ag} (h : eG C ok g s = some s') : (∀ C' : bz,eG C' ok g s = some s')∨∃ f xs r,C f xs = some r∧∀ C' : bz,C' f xs = some r→eG C' ok g s = some s':=by
  obtain ⟨gg,o⟩:=g
  cases gg with
  | none=>exact DQ h
  | some tb =>
    obtain ⟨t,b⟩:=tb
    simp only [eG] at h ⊢
    split at h
    · rename_i v hv
      split at h
      · rename_i h1
        simp only [hv,if_pos h1]
        exact DQ h
      · rename_i h1
        simp only [hv,if_neg h1]
        exact .inl fun _=>h
    · exact .inl fun _=>h
    · cases h
def bz.le (C C' : bz) : Prop:=∀ f xs o,C f xs = some o→C' f xs = some o
theorem DO (hl : C.le C') {g : G} {s s' : ag} (h : eG C ok g s = some s') : eG C' ok g s = some s':=by
  rcases DM h with h | ⟨f,xs,r,h1,h2⟩
  · exact h _
  · exact h2 _ (hl _ _ _ h1)
theorem zh (hl : C.le C') : ∀ {l : List G} {s s' : ag},fY C ok l s = some s'→fY C' ok l s = some s'
  | [],_,_,h=>h
  | g :: l,s,s',h=>by
    simp only [fY] at h ⊢
    cases h1 : eG C ok g s with
    | none=>rw [h1] at h; cases h
    | some s1=>rw [h1] at h; rw [DO hl h1]; exact zh hl h
theorem oI (hl : C.le C') : ∀ {t : DT} {s s' : ag},eD C ok t s = some s'→eD C' ok t s = some s'
  | .nil _,_,_,h=>h
  | .step _ g l,s,s',h=>by
    simp only [eD] at h ⊢
    cases h1 : eG C ok g s with
    | none=>rw [h1] at h; cases h
    | some s1=>rw [h1] at h; rw [DO hl h1]; exact oI hl h
  | .alt a b,s,s',h=>by
    simp only [eD] at h ⊢
    unfold same at h
    split at h
    · rename_i x y hx hy
      rw [oI hl hx,oI hl hy]
      exact h
    · cases h
  | .kp _ t,s,s',h=>oI (t:=t) hl h
theorem ye {k k' : ag→bG} {r r' : bG} {o : Ex×ag} (h : dn k r = some o) (hr : ∀ x,r = some x→r' = some x) (hk : ∀ s,k s = some o→k' s = some o) : dn k' r' = some o:=by
  unfold dn at h
  split at h
  · rw [hr _ rfl]; exact hk _ h
  · rw [hr _ rfl]; exact h
  · rw [hr _ rfl]; exact h
  · cases h
theorem pz {f f' : ag→bG} (hf : ∀ s o,f s = some o→f' s = some o) : ∀ {n m : Nat} {s : ag} {o : Ex×ag},n≤m→iter f n s = some o→iter f' m s = some o
  | 0,_,_,_,_,h=>by cases h
  | n + 1,0,_,_,hn,_=>by omega
  | n + 1,m + 1,s,o,hn,h=>ye h (hf s) fun s' h'=>pz hf (by omega) h'
end
noncomputable def aK (f : ag→bG) (s : ag) : bG:=by
  classical exact if h : ∃ o : Ex×ag,∃ n,iter f n s = some o then some (Classical.choose h) else none
theorem tf {f : ag→bG} {s : ag} {o : Ex×ag} {n : Nat} (h : iter f n s = some o) : aK f s = some o:=by
  have hh : ∃ o : Ex×ag,∃ n,iter f n s = some o:=⟨o,n,h⟩
  unfold aK
  rw [dif_pos hh]
  obtain ⟨m,hm⟩:=Classical.choose_spec hh
  have h1:=pz (fun _ _ h=>h) (Nat.le_max_left m n) hm
  have h2:=pz (fun _ _ h=>h) (Nat.le_max_right m n) h
  rw [h1] at h2
  exact h2
theorem BB {f : ag→bG} {s : ag} {o : Ex×ag} (h : aK f s = some o) : ∃ n,iter f n s = some o:=by
  unfold aK at h
  split at h
  · rename_i hh
    cases h
    exact Classical.choose_spec hh
  · cases h
theorem BQ {α : Type} {a b : Option α} (h1 : ∀ x,a = some x→b = some x) (h2 : ∀ x,b = some x→a = some x) : a = b:=by
  cases a with
  | none=>cases b with
    | none=>rfl
    | some y=>exact h2 y rfl
  | some x=>exact (h1 x rfl).symm
theorem gG (f : ag→bG) (s : ag) : aK f s = dn (aK f) (f s):=by
  refine BQ (fun o h=>?_) fun o h=>?_
  · obtain ⟨n,hn⟩:=BB h
    cases n with
    | zero=>cases hn
    | succ n=>exact ye hn (fun _ h=>h) fun s' h'=>tf h'
  · unfold dn at h
    split at h
    · rename_i s' hs
      obtain ⟨n,hn⟩:=BB h
      refine tf (n:=n + 1) ?_
      simp only [iter,hs,dn]; exact hn
    · rename_i hs; refine tf (n:=1) ?_; simp only [iter,hs,dn]; exact h
    · rename_i hs; refine tf (n:=1) ?_; simp only [iter,hs,dn]; exact h
    · cases h
noncomputable def aq (C : bz) (ok : FuncId→Bool) : A→ag→bG
  | .skip,s=>some (.normal,s)
  | .ret,s=>some (.ret,s)
  | .exit id,s=>some (.exit id,s)
  | .ops l,s=>eV (fY C ok l s)
  | .draw t,s=>eV (eD C ok t s)
  | .seq a b,s=>dn (aq C ok b) (aq C ok a s)
  | .cond c a b,s=>match ai s c with
    | .bool t=>if t = true then aq C ok a s else aq C ok b s
    | _=>none
  | .block id b,s=>gN id (aq C ok b s)
  | .loop b,s=>aK (aq C ok b) s
  | .pk ks b,s=>ia ks (aq C ok b s)
theorem xD {a b : Option ag} (h : ∀ s,a = some s→b = some s) {o : Ex×ag} (ho : eV a = some o) : eV b = some o:=by
  unfold eV at ho
  split at ho
  · rw [h _ rfl]; exact ho
  · cases ho
theorem CX {id : Nat} {a b : bG} (h : ∀ s,a = some s→b = some s) {o : Ex×ag} (ho : gN id a = some o) : gN id b = some o:=by
  cases a with
  | none=>cases ho
  | some x=>rw [h _ rfl]; exact ho
theorem FW {ks : List Nat} {a b : bG} (h : ∀ s,a = some s→b = some s) {o : Ex×ag} (ho : ia ks a = some o) : ia ks b = some o:=by
  cases a with
  | none=>cases ho
  | some x=>rw [h _ rfl]; exact ho
theorem KU {C C' : bz} {ok : FuncId→Bool} (hl : C.le C') {N : Nat} : ∀ {t : A} {s : ag} {o : Ex×ag},eA C ok N t s = some o→aq C' ok t s = some o:=by
  intro t
  induction t with
  | skip=>intro s o h; exact h
  | ret=>intro s o h; exact h
  | exit id=>intro s o h; exact h
  | ops l=>intro s o h; exact xD (fun s' h'=>zh hl h') h
  | draw l=>intro s o h; exact xD (fun s' h'=>oI hl h') h
  | seq a b eT gi=>intro s o h; exact ye h (fun x hx=>eT hx) fun s' h'=>gi h'
  | cond c a b eT gi =>
    intro s o h
    simp only [eA] at h
    simp only [aq]
    split at h
    · rename_i t ht
      try rw [ht]
      cases t with
      | true=>exact eT h
      | false=>exact gi h
    · cases h
  | block id b ih=>intro s o h; exact CX (fun x hx=>ih hx) h
  | loop b ih=>intro s o h; exact tf (pz (fun s o h=>ih h) (Nat.le_refl _) h)
  | pk ks b ih=>intro s o h; exact FW (fun x hx=>ih hx) h
theorem KV {C C' : bz} {ok : FuncId→Bool} (hl : C.le C') {N N' : Nat} (hN : N≤N') : ∀ {t : A} {s : ag} {o : Ex×ag},eA C ok N t s = some o→eA C' ok N' t s = some o:=by
  intro t
  induction t with
  | skip=>intro s o h; exact h
  | ret=>intro s o h; exact h
  | exit id=>intro s o h; exact h
  | ops l=>intro s o h; exact xD (fun s' h'=>zh hl h') h
  | draw l=>intro s o h; exact xD (fun s' h'=>oI hl h') h
  | seq a b eT gi=>intro s o h; exact ye h (fun x hx=>eT hx) fun s' h'=>gi h'
  | cond c a b eT gi =>
    intro s o h
    simp only [eA] at h ⊢
    split at h
    · rename_i t ht
      cases t with
      | true=>exact eT h
      | false=>exact gi h
    · cases h
  | block id b ih=>intro s o h; exact CX (fun x hx=>ih hx) h
  | loop b ih=>intro s o h; exact pz (fun s o h=>ih h) hN h
  | pk ks b ih=>intro s o h; exact FW (fun x hx=>ih hx) h
theorem vh {L : bz} {T : fE} : ∀ {n m : Nat},n≤m→(exec L T n).le (exec L T m)
  | 0,_,_,_,_,_,h=>by cases h
  | n + 1,0,hn,_,_,_,_=>by omega
  | n + 1,m + 1,hn,f,xs,o,h=>by
    have hnm : n≤m:=by omega
    simp only [exec] at h ⊢
    split at h
    · rename_i F hF
      unfold eF at h ⊢
      split at h
      · rename_i hl
        rw [if_pos hl]
        cases hr : eA (exec L T n) (av T) n F.body (iV xs) with
        | none=>rw [hr] at h; cases h
        | some r=>rw [hr] at h; rw [KV (vh hnm) hnm hr]; exact h
      · cases h
    · exact h
noncomputable def ev (L : bz) (T : fE) : bz:=fun f xs=>by
  classical exact if h : ∃ o : Out,∃ n,exec L T n f xs = some o then some (Classical.choose h) else none
theorem zk {L : bz} {T : fE} {f : FuncId} {xs : List X} {o : Out} {n : Nat} (h : exec L T n f xs = some o) : ev L T f xs = some o:=by
  have hh : ∃ o : Out,∃ n,exec L T n f xs = some o:=⟨o,n,h⟩
  unfold ev
  rw [dif_pos hh]
  obtain ⟨m,hm⟩:=Classical.choose_spec hh
  have h1:=vh (Nat.le_max_left m n) f xs _ hm
  have h2:=vh (Nat.le_max_right m n) f xs _ h
  rw [h1] at h2
  exact h2
theorem vf {L : bz} {T : fE} {f : FuncId} {xs : List X} {o : Out} (h : ev L T f xs = some o) : ∃ n,exec L T n f xs = some o:=by
  unfold ev at h
  split at h
  · rename_i hh
    cases h
    exact Classical.choose_spec hh
  · cases h
theorem Lc (L : bz) (T : fE) (n : Nat) : (exec L T n).le (ev L T):=fun _ _ _ h=>zk h
theorem La [Bs] {P : Program} {L : bz} {T : fE} (hL : L.Sound P) (hT : T.Ok P) : (ev L T).Sound P:=fun f xs o h=>by
  obtain ⟨n,hn⟩:=vf h
  exact D6 hL hT n f xs o hn
section
variable {L : bz} {T : fE}
theorem DN {g : G} {s s' : ag} (h : eG (ev L T) (av T) g s = some s') : ∃ n,∀ m,n≤m→eG (exec L T m) (av T) g s = some s':=by
  rcases DM h with h | ⟨f,xs,r,h1,h2⟩
  · exact ⟨0,fun m _=>h _⟩
  · obtain ⟨n,hn⟩:=vf h1
    exact ⟨n,fun m hm=>h2 _ (vh hm f xs r hn)⟩
theorem DS : ∀ {l : List G} {s s' : ag},fY (ev L T) (av T) l s = some s'→∃ n,∀ m,n≤m→fY (exec L T m) (av T) l s = some s'
  | [],s,s',h=>⟨0,fun m _=>h⟩
  | g :: l,s,s',h=>by
    simp only [fY] at h ⊢
    cases h1 : eG (ev L T) (av T) g s with
    | none=>rw [h1] at h; cases h
    | some s1 =>
      rw [h1] at h
      obtain ⟨n1,fk⟩:=DN h1
      obtain ⟨n2,hn2⟩:=DS (l:=l) h
      exact ⟨max n1 n2,fun m hm=>by rw [fk m (by omega)]; exact hn2 m (by omega)⟩
theorem qZ : ∀ {l : DT} {s s' : ag},eD (ev L T) (av T) l s = some s'→∃ n,∀ m,n≤m→eD (exec L T m) (av T) l s = some s'
  | .nil _,s,s',h=>⟨0,fun m _=>h⟩
  | .step _ g l,s,s',h=>by
    simp only [eD] at h ⊢
    cases h1 : eG (ev L T) (av T) g s with
    | none=>rw [h1] at h; cases h
    | some s1 =>
      rw [h1] at h
      obtain ⟨n1,fk⟩:=DN h1
      obtain ⟨n2,hn2⟩:=qZ (l:=l) h
      exact ⟨max n1 n2,fun m hm=>by rw [fk m (by omega)]; exact hn2 m (by omega)⟩
  | .alt a b,s,s',h=>by
    simp only [eD] at h ⊢
    unfold same at h
    split at h
    · rename_i x y hx hy
      obtain ⟨n1,fk⟩:=qZ hx
      obtain ⟨n2,hn2⟩:=qZ hy
      exact ⟨max n1 n2,fun m hm=>by rw [fk m (by omega),hn2 m (by omega)]; exact h⟩
    · cases h
  | .kp _ t,s,s',h=>qZ (l:=t) h
theorem FI {a : Option ag} {b : Nat→Option ag} (h : ∀ s,a = some s→∃ n,∀ m,n≤m→b m = some s) {o : Ex×ag} (ho : eV a = some o) : ∃ n,∀ m,n≤m→eV (b m) = some o:=by
  cases a with
  | none=>cases ho
  | some s =>
    obtain ⟨n,hn⟩:=h s rfl
    exact ⟨n,fun m hm=>by rw [hn m hm]; exact ho⟩
theorem K8 : ∀ {t : A} {s : ag} {o : Ex×ag},aq (ev L T) (av T) t s = some o→∃ n,∀ m,n≤m→eA (exec L T m) (av T) m t s = some o:=by
  intro t
  induction t with
  | skip=>intro s o h; exact ⟨0,fun m _=>h⟩
  | ret=>intro s o h; exact ⟨0,fun m _=>h⟩
  | exit id=>intro s o h; exact ⟨0,fun m _=>h⟩
  | ops l=>intro s o h; exact FI (fun s h=>DS h) h
  | draw l=>intro s o h; exact FI (fun s h=>qZ h) h
  | seq a b eT gi =>
    intro s o h
    simp only [aq] at h
    simp only [eA]
    cases hr : aq (ev L T) (av T) a s with
    | none=>rw [hr] at h; cases h
    | some r =>
      rw [hr] at h
      obtain ⟨n1,fk⟩:=eT hr
      obtain ⟨e,s1⟩:=r
      cases e with
      | normal =>
        obtain ⟨n2,hn2⟩:=gi (s:=s1) h
        exact ⟨max n1 n2,fun m hm=>by rw [fk m (by omega)]; exact hn2 m (by omega)⟩
      | exit i=>exact ⟨n1,fun m hm=>by rw [fk m hm]; exact h⟩
      | ret=>exact ⟨n1,fun m hm=>by rw [fk m hm]; exact h⟩
  | cond c a b eT gi =>
    intro s o h
    simp only [aq] at h
    simp only [eA]
    split at h
    · rename_i t ht
      try rw [ht]
      cases t with
      | true=>exact eT h
      | false=>exact gi h
    · cases h
  | block id b ih =>
    intro s o h
    simp only [aq] at h
    simp only [eA]
    cases hr : aq (ev L T) (av T) b s with
    | none=>rw [hr] at h; cases h
    | some r =>
      rw [hr] at h
      obtain ⟨n1,fk⟩:=ih hr
      exact ⟨n1,fun m hm=>by rw [fk m hm]; exact h⟩
  | pk ks b ih =>
    intro s o h
    simp only [aq] at h
    simp only [eA]
    cases hr : aq (ev L T) (av T) b s with
    | none=>rw [hr] at h; cases h
    | some r =>
      rw [hr] at h
      obtain ⟨n1,fk⟩:=ih hr
      exact ⟨n1,fun m hm=>by rw [fk m hm]; exact h⟩
  | loop b ih =>
    intro s o h
    simp only [aq] at h
    obtain ⟨n,hn⟩:=BB h
    have go : ∀ (n : Nat) (s : ag),iter (aq (ev L T) (av T) b) n s = some o→∃ k,∀ m,k≤m→iter (eA (exec L T m) (av T) m b) n s = some o:=by
      intro n
      induction n with
      | zero=>intro s h; cases h
      | succ n ihn =>
        intro s h
        simp only [iter] at h ⊢
        cases hr : aq (ev L T) (av T) b s with
        | none=>rw [hr] at h; cases h
        | some r =>
          rw [hr] at h
          obtain ⟨n1,fk⟩:=ih hr
          obtain ⟨e,s1⟩:=r
          cases e with
          | normal =>
            obtain ⟨n2,hn2⟩:=ihn s1 h
            exact ⟨max n1 n2,fun m hm=>by rw [fk m (by omega)]; exact hn2 m (by omega)⟩
          | exit i=>exact ⟨n1,fun m hm=>by rw [fk m hm]; exact h⟩
          | ret=>exact ⟨n1,fun m hm=>by rw [fk m hm]; exact h⟩
    obtain ⟨k,hk⟩:=go n s hn
    refine ⟨max k n,fun m hm=>?_⟩
    simp only [eA]
    exact pz (fun _ _ h=>h) (by omega) (hk m (by omega))
noncomputable def ve (L : bz) (T : fE) (F : Fn) (xs : List X) : Option Out :=
  if xs.length = F.n then fin F (aq (ev L T) (av T) F.body (iV xs)) else none
theorem K9 {f : FuncId} {F : Fn} (hF : T f = some F) (xs : List X) : ev L T f xs = ve L T F xs:=by
  refine BQ (fun o h=>?_) fun o h=>?_
  · obtain ⟨n,hn⟩:=vf h
    cases n with
    | zero=>cases hn
    | succ n =>
      simp only [exec,hF] at hn
      unfold eF at hn
      unfold ve
      split at hn
      · rename_i hl
        rw [if_pos hl]
        cases hr : eA (exec L T n) (av T) n F.body (iV xs) with
        | none=>rw [hr] at hn; cases hn
        | some r=>rw [hr] at hn; rw [KU (Lc L T n) hr]; exact hn
      · cases hn
  · unfold ve at h
    split at h
    · rename_i hl
      cases hr : aq (ev L T) (av T) F.body (iV xs) with
      | none=>rw [hr] at h; cases h
      | some r =>
        rw [hr] at h
        obtain ⟨n,hn⟩:=K8 hr
        refine zk (n:=n + 1) ?_
        simp only [exec,hF,eF,if_pos hl,hn n (Nat.le_refl n)]
        exact h
    · cases h
theorem oL {f : FuncId} (hF : T f = none) (xs : List X) : ev L T f xs = L f xs:=by
  refine BQ (fun o h=>?_) fun o h=>?_
  · obtain ⟨n,hn⟩:=vf h
    cases n with
    | zero=>cases hn
    | succ n=>simpa only [exec,hF] using hn
  · refine zk (n:=1) ?_
    simpa only [exec,hF] using h
end
end M
set_option linter.unusedVariables false
set_option linter.unusedSimpArgs false
namespace M
open Go
section
variable {C : bz} {ok : FuncId→Bool} {T : fE}
@[simp] theorem Wo (s : ag) : aq C ok .skip s = some (.normal,s):=rfl
@[simp] theorem Wm (s : ag) : aq C ok .ret s = some (.ret,s):=rfl
@[simp] theorem Wi (i : Nat) (s : ag) : aq C ok (.exit i) s = some (.exit i,s):=rfl
@[simp] theorem Wk (l : List G) (s : ag) : aq C ok (.ops l) s = eV (fY C ok l s):=rfl
@[simp] theorem Wh (t : DT) (s : ag) : aq C ok (.draw t) s = eV (eD C ok t s):=rfl
@[simp] theorem Wn (a b : A) (s : ag) : aq C ok (.seq a b) s = dn (aq C ok b) (aq C ok a s):=rfl
@[simp] theorem Wf (i : Nat) (b : A) (s : ag) : aq C ok (.block i b) s = gN i (aq C ok b s):=rfl
@[simp] theorem Wj (b : A) (s : ag) : aq C ok (.loop b) s = aK (aq C ok b) s:=rfl
@[simp] theorem Wl (ks : List Nat) (b : A) (s : ag) : aq C ok (.pk ks b) s = ia ks (aq C ok b s):=rfl
noncomputable def DB (C : bz) (ok : FuncId→Bool) (a b : A) (s : ag) : X→bG
  | .bool t=>if t = true then aq C ok a s else aq C ok b s
  | _=>none
@[simp] theorem Wg (c : AV) (a b : A) (s : ag) : aq C ok (.cond c a b) s = DB C ok a b s (ai s c):=by
  simp only [aq]; cases ai s c <;> rfl
@[simp] theorem VK (a b : A) (s : ag) (t : Bool) : DB C ok a b s (.bool t) = if t = true then aq C ok a s else aq C ok b s:=rfl
@[simp] theorem Wd (s : ag) : fY C ok [] s = some s:=rfl
@[simp] theorem Wc (g : G) (l : List G) (s : ag) : fY C ok (g :: l) s = (eG C ok g s).bind (fY C ok l):=rfl
@[simp] theorem V8 (ks : List Nat) (s : ag) : eD C ok (.nil ks) s = some (keep ks s):=rfl
@[simp] theorem V9 (i : Nat) (g : G) (t : DT) (s : ag) : eD C ok (.step i g t) s = (eG C ok g s).bind (eD C ok t):=rfl
@[simp] theorem V6 (a b : DT) (s : ag) : eD C ok (.alt a b) s = same (eD C ok a s) (eD C ok b s):=rfl
@[simp] theorem V7 (ks : List Nat) (t : DT) (s : ag) : eD C ok (.kp ks t) s = eD C ok t (keep ks s):=rfl
@[simp] theorem XR (s : ag) : same (some s) (some s) = some s:=by
  have : lT s s = true:=by
    induction s with
    | nil=>rfl
    | cons a l ih=>obtain ⟨k,x⟩:=a; simp [lT,X.DZ,ih]
  simp [same,this]
@[simp] theorem UW (c : Prop) [Decidable c] (a b : Option ag) (f : ag→Option ag) : (if c then a else b).bind f = if c then a.bind f else b.bind f:=by split <;> rfl
def vt (C : bz) (ok : FuncId→Bool) (o : bA) (t : Nat) (b : Bool) (s : ag) : X→Option ag
  | .bool v=>if v = b then bK C ok o ((t,.bool b) :: s) else some (dB o.dst (.au []) ((t,.bool (!b)) :: s))
  | .au []=>some (dB o.dst (.au []) s)
  | _=>none
@[simp] theorem Wa (o : bA) (s : ag) : eG C ok ⟨none,o⟩ s = bK C ok o s:=rfl
@[simp] theorem Wb (t : Nat) (b : Bool) (o : bA) (s : ag) : eG C ok ⟨some (t,b),o⟩ s = vt C ok o t b s (get s t):=by
  simp only [eG]
  split <;> simp_all [vt]
@[simp] theorem WC (o : bA) (t : Nat) (b v : Bool) (s : ag) : vt C ok o t b s (.bool v) = if v = b then bK C ok o ((t,.bool b) :: s) else some (dB o.dst (.au []) ((t,.bool (!b)) :: s)):=rfl
@[simp] theorem WD (o : bA) (t : Nat) (b : Bool) (s : ag) : vt C ok o t b s (.au []) = some (dB o.dst (.au []) s):=rfl
@[simp] theorem XB (s : ag) : eV (some s) = some (.normal,s):=rfl
@[simp] theorem XA : eV none = none:=rfl
@[simp] theorem Xz (c : Prop) [Decidable c] (a b : Option ag) : eV (if c then a else b) = if c then eV a else eV b:=by split <;> rfl
@[simp] theorem RY (k : ag→bG) (s : ag) : dn k (some (.normal,s)) = k s:=rfl
@[simp] theorem XT (k : ag→bG) (i : Nat) (s : ag) : dn k (some (.exit i,s)) = some (.exit i,s):=rfl
@[simp] theorem XW (k : ag→bG) (s : ag) : dn k (some (.ret,s)) = some (.ret,s):=rfl
@[simp] theorem XV (k : ag→bG) : dn k none = none:=rfl
@[simp] theorem XU (k : ag→bG) (c : Prop) [Decidable c] (a b : bG) : dn k (if c then a else b) = if c then dn k a else dn k b:=by split <;> rfl
@[simp] theorem U0 (i : Nat) (s : ag) : gN i (some (.normal,s)) = some (.normal,s):=rfl
@[simp] theorem UX (i j : Nat) (s : ag) : gN i (some (.exit j,s)) = if j = i then some (.normal,s) else some (.exit j,s):=rfl
@[simp] theorem U4 (i : Nat) (s : ag) : gN i (some (.ret,s)) = some (.ret,s):=rfl
@[simp] theorem UZ (i : Nat) : gN i none = none:=rfl
@[simp] theorem UY (i : Nat) (c : Prop) [Decidable c] (a b : bG) : gN i (if c then a else b) = if c then gN i a else gN i b:=by split <;> rfl
@[simp] theorem XK (ks : List Nat) (s : ag) : ia ks (some (.normal,s)) = some (.normal,keep ks s):=rfl
@[simp] theorem XH (ks : List Nat) (i : Nat) (s : ag) : ia ks (some (.exit i,s)) = some (.exit i,s):=rfl
@[simp] theorem XL (ks : List Nat) (s : ag) : ia ks (some (.ret,s)) = some (.ret,s):=rfl
@[simp] theorem XJ (ks : List Nat) : ia ks none = none:=rfl
@[simp] theorem XI (ks : List Nat) (c : Prop) [Decidable c] (a b : bG) : ia ks (if c then a else b) = if c then ia ks a else ia ks b:=by split <;> rfl
def nc (rs : List RV) (n : Nat) : bG→Option Out
  | some (.exit _,_)=>none
  | some (_,s)=>if X.clean.bE (cE rs s).1 = true∧(cE rs s).1.any X.iK = false then some (nW (cE rs s).1,lf 0 n (cE rs s).2) else none
  | none=>none
def zq (rs : List RV) (n : Nat) (s : ag) : Option Out:=if X.clean.bE (cE rs s).1 = true∧(cE rs s).1.any X.iK = false then some (nW (cE rs s).1,lf 0 n (cE rs s).2) else none
theorem aA {L : bz} {T : fE} {f : FuncId} {b : A} {rs : List RV} {n : Nat} (h : T f = some ⟨b,rs,n⟩) {xs : List X} (hl : xs.length = n) : ev L T f xs = nc rs n (aq (ev L T) (av T) b (iV xs)):=by
  rw [K9 h]
  unfold ve
  rw [if_pos hl]
  rfl
@[simp] theorem WB (rs : List RV) (n : Nat) (s : ag) : nc rs n (some (.ret,s)) = zq rs n s:=rfl
@[simp] theorem WA (rs : List RV) (n : Nat) (s : ag) : nc rs n (some (.normal,s)) = zq rs n s:=rfl
@[simp] theorem Wz (rs : List RV) (n : Nat) : nc rs n none = none:=rfl
@[simp] theorem Wy (rs : List RV) (n : Nat) (c : Prop) [Decidable c] (a b : bG) : nc rs n (if c then a else b) = if c then nc rs n a else nc rs n b:=by split <;> rfl
@[simp] theorem XP (d : Option Nat) (s : ag) (r : X) (ps : List X) : lg d s (some (r,ps)) = some (dB d r s):=rfl
@[simp] theorem XO (d : Option Nat) (s : ag) : lg d s none = none:=rfl
@[simp] theorem XM (d : Option Nat) (s : ag) (c : Prop) [Decidable c] (a b : Option Out) : lg d s (if c then a else b) = if c then lg d s a else lg d s b:=by split <;> rfl
end
attribute [simp] zq bK iV uj uk cE lf post nW X.iK X.clean X.clean.bE X.clean.aR keep yj uR lN oE
end M
set_option linter.unusedVariables false
set_option linter.unusedSimpArgs false
namespace M
open Go
def qU (z bytes : Nat) : A:=(.seq (.pk [0] (.ops [⟨none,.bY 2 .bJ (.k (.row .own z []))⟩])) (.seq (.seq (.pk [0,4] (.ops [⟨none,.mv 3 (.t 0)⟩,⟨none,.mE 4 false (.t 3)⟩])) (.pk [0] (.cond (.t 4) (.seq (.pk [2,7] (.ops [⟨none,.bY 2 .bJ (.k (.row .own z []))⟩])) .ret) .skip))) (.seq (.pk [2,7] (.ops [⟨none,.lit 5 .mv z []⟩,⟨none,.mv 6 (.t 0)⟩,⟨none,.app 7 .al z bytes (.t 5) (.t 6)⟩,⟨none,.bY 2 .bJ (.t 7)⟩])) .ret)))
theorem Dx : ∀ {rows : List (List X)},dU rows = true→X.clean.aR rows = true
  | [],_=>rfl
  | e :: l,h=>by
    simp only [dU,Bool.and_eq_true,List.all_eq_true] at h
    have h1 : X.clean.bE e = true:=by
      have h2:=h.1
      clear h
      induction e with
      | nil=>rfl
      | cons x e ih =>
        have hx:=h2 x (List.mem_cons_self ..)
        have he:=ih fun y hy=>h2 y (List.mem_cons_of_mem _ hy)
        cases x <;> simp_all [scalar,X.clean.bE,X.clean]
    simp only [X.clean.aR,h1,Dx h.2,Bool.and_self]
theorem Ks [Bs] {P : Program} {f : FuncId} {z bytes : Nat} (hT : Told P f (qU z bytes) [.t 2] 1) {rows : List (List X)} (h1 : rows.length * bytes≤140737488355328) (h2 : dU rows = true) (h4 : iO rows = true∨rows = []) :
    AC P f [.row .af z rows] fun r ps=>r = .row .own z rows∧ps = [.dead]:=by
  refine hT.ac rfl ?_
  have h3:=Cn h2
  have h5:=Dx h2
  simp [qU,cP,gv,kq,aG,base,Ends,h1,h3,h5]
  intro h6
  rcases h4 with h4 | h4
  · rw [h4] at h6; cases h6
  · subst h4; simp
def kB (f0 z bytes : Nat) : bz:=fun f xs=>if f = f0 then (match xs with
  | [.row .af z' rows]=>if z' = z∧rows.length * bytes≤140737488355328∧dU rows = true∧(iO rows = true∨rows = []) then some (.row .own z rows,[.dead]) else none
  | _=>none) else none
theorem Dy [Bs] {P : Program} {f0 z bytes : Nat} (hT : Told P f0 (qU z bytes) [.t 2] 1) : (kB f0 z bytes).Sound P:=fun f xs o h=>by
  unfold kB at h
  split at h
  · rename_i hf
    subst hf
    split at h
    · split at h
      · rename_i hc
        obtain ⟨rfl,c1,c2,c3⟩:=hc
        cases h
        exact Ks hT c1 c2 c3
      · cases h
    · cases h
  · cases h
def gI (L L' : bz) : bz:=fun f xs=>match L f xs with
  | some o=>some o
  | none=>L' f xs
theorem tG [Bs] {P : Program} {L L' : bz} (h : L.Sound P) (h' : L'.Sound P) : (gI L L').Sound P:=fun f xs o e=>by
  unfold gI at e
  split at e
  · rename_i o' e'
    cases e
    exact h f xs _ e'
  · exact h' f xs _ e
end M
set_option linter.unusedVariables false
set_option linter.unusedSimpArgs false
namespace M
open Go
def RR : X→Bool
  | .str s=>decide (s.size≤9223372036854775807)
  | x=>scalar x
def tK (f0 : FuncId) (g : List X→Option X) : bz:=fun f xs=>if f = f0 then (match g xs with
  | some r=>if xs.all scalar = true∧RR r = true then some (r,xs.map fun _=>.dead) else none
  | none=>none) else none
end M
set_option linter.unusedVariables false
set_option linter.unusedSimpArgs false
namespace M
open Go Go.Sort
def qH [B : Bs] (w : World) : Prop:=∀ b,b < B.W0.heap.size→w.heap[b]? = B.W0.heap[b]?
theorem TabIs.same [B : Bs] {P : Program} {w : World} {n : String} {k : IntKind} {zs : List Int} (h : Lib.TabIs P B.W0 n k zs) (hw : qH w) : Lib.TabIs P w n k zs:=by
  unfold Lib.TabIs World.var? at h ⊢
  cases hg : P.globalNamed n with
  | none=>rw [hg] at h; cases h
  | some g =>
    rw [hg] at h
    simp only [Option.bind_some] at h ⊢
    have hlt : g < B.W0.heap.size:=by
      rcases Nat.lt_or_ge g B.W0.heap.size with h' | h'
      · exact h'
      · rw [Array.getElem?_eq_none h'] at h; cases h
    rw [hw g hlt]
    exact h
end M
set_option linter.unusedVariables false
set_option linter.unusedSimpArgs false
namespace M
open Go
def lv : Ex×ag→bG
  | (.normal,_)=>none
  | (.ret,s)=>some (.ret,s)
  | (.exit i,s)=>some (.exit i,s)
def jZ {β γ : Type} (go : β→γ→γ ⊕ (Ex×ag)) : List β→γ→γ ⊕ (Ex×ag)
  | [],g=>.inl g
  | b :: l,g=>match go b g with
    | .inl g'=>jZ go l g'
    | .inr o=>.inr o
theorem BC {xt : Nat} {β γ : Type} {f : ag→bG} (l : List β) (st : Nat→γ→ag) (go : β→γ→γ ⊕ (Ex×ag)) (E : γ→ag) (Inv : Nat→γ→Prop) (g : γ) (h0 : Inv 0 g)
    (h : ∀ i b g,l[i]? = some b→i < l.length→Inv i g→f (st i g) = (match go b g with | .inl g'=>some (.normal,st (i + 1) g') | .inr o=>lv o))
    (hI : ∀ i b g g',l[i]? = some b→Inv i g→go b g = .inl g'→Inv (i + 1) g')
    (hend : ∀ g,Inv l.length g→f (st l.length g) = some (.exit xt,E g)) :
    aK f (st 0 g) = match jZ go l g with | .inl g'=>some (.exit xt,E g') | .inr o=>lv o:=by
  suffices H : ∀ (r : List β) (i : Nat) (g : γ),Inv i g→l.drop i = r→i≤l.length→aK f (st i g) = match jZ go r g with | .inl g'=>some (.exit xt,E g') | .inr o=>lv o from H l 0 g h0 rfl (Nat.zero_le _)
  intro r
  induction r with
  | nil =>
    intro i g hi hr hl
    have : i = l.length:=by
      have:=congrArg List.length hr
      simp at this
      omega
    subst this
    rw [gG,hend g hi]
    rfl
  | cons b r ih =>
    intro i g hi hr hl
    have hlt : i < l.length:=by
      rcases Nat.lt_or_ge i l.length with h | h
      · exact h
      · rw [List.drop_eq_nil_of_le h] at hr; cases hr
    have hb : l[i]? = some b:=by
      have:=List.drop_eq_getElem_cons hlt
      rw [hr] at this
      rw [List.getElem?_eq_getElem hlt]
      cases this; rfl
    have hr' : l.drop (i + 1) = r:=by
      have:=List.drop_eq_getElem_cons hlt
      rw [hr] at this
      cases this; rfl
    rw [gG,h i b g hb hlt hi]
    unfold jZ
    cases hg : go b g with
    | inl g'=>exact ih (i + 1) g' (hI i b g g' hb hi hg) hr' hlt
    | inr o =>
      obtain ⟨e,s⟩:=o
      cases e <;> simp [dn,lv]
def aW {α : Type} (p : α→Bool) (l : List α) : Bool:=l.all p
theorem yz {α : Type} {p : α→Bool} {l : List α} : aW p l = true↔∀ x∈l,p x = true:=List.all_eq_true
theorem cV {xt : Nat} {β : Type} {f : ag→bG} (l : List β) (st : Nat→ag) (p : β→Bool) (R E : ag)
    (h : ∀ i b,l[i]? = some b→i < l.length→f (st i) = if p b = true then some (.normal,st (i + 1)) else some (.ret,R))
    (hend : f (st l.length) = some (.exit xt,E)) :
    aK f (st 0) = if aW p l = true then some (.exit xt,E) else some (.ret,R):=by
  show _ = if l.all p = true then _ else _
  have H:=BC (f:=f) l (fun i (_ : Unit)=>st i) (fun b _=>if p b = true then .inl () else .inr (.ret,R)) (fun _=>E) (fun _ _=>True) () trivial
    (fun i b g hb hl _=>by rw [h i b hb hl]; by_cases hp : p b = true <;> simp [hp,lv]) (fun _ _ _ _ _ _ _=>trivial) fun _ _=>hend
  refine H.trans ?_
  have : ∀ r : List β,jZ (fun b (_ : Unit)=>if p b = true then .inl () else .inr (Ex.ret,R)) r () = if r.all p = true then .inl () else .inr (.ret,R):=by
    intro r
    induction r with
    | nil=>rfl
    | cons b r ih =>
      simp only [jZ]
      by_cases hp : p b = true
      · simp [hp,ih]
      · simp [hp]
  rw [this]
  by_cases hp : l.all p = true <;> simp [hp,lv]
theorem PF {xt : Nat} {β γ : Type} {f : ag→bG} (l : List β) (st : Nat→γ→ag) (go : γ→β→γ) (E : γ→ag) (Inv : Nat→γ→Prop) (g : γ) (h0 : Inv 0 g)
    (h : ∀ i b g,l[i]? = some b→i < l.length→Inv i g→f (st i g) = some (.normal,st (i + 1) (go g b)))
    (hI : ∀ i b g,l[i]? = some b→Inv i g→Inv (i + 1) (go g b))
    (hend : ∀ g,Inv l.length g→f (st l.length g) = some (.exit xt,E g)) :
    aK f (st 0 g) = some (.exit xt,E (l.foldl go g)):=by
  refine (BC (f:=f) l st (fun b g=>.inl (go g b)) E Inv g h0 h (fun i b g g' hb hi e=>by cases e; exact hI i b g hb hi) hend).trans ?_
  have : ∀ (r : List β) (g : γ),jZ (fun b g=>.inl (go g b)) r g = (.inl (r.foldl go g) : γ ⊕ (Ex×ag)):=by
    intro r
    induction r with
    | nil=>intro g; rfl
    | cons b r ih=>intro g; simp only [jZ,List.foldl_cons]; exact ih _
  rw [this]
theorem gH {xt : Nat} {β : Type} {f : ag→bG} (l : List β) (st : Nat→ag) (E : ag)
    (h : ∀ i b,l[i]? = some b→i < l.length→f (st i) = some (.normal,st (i + 1)))
    (hend : f (st l.length) = some (.exit xt,E)) : aK f (st 0) = some (.exit xt,E) :=
  PF l (fun i (_ : Unit)=>st i) (fun _ _=>()) (fun _=>E) (fun _ _=>True) () trivial (fun i b _ hb hl _=>h i b hb hl) (fun _ _ _ _ _=>trivial) fun _ _=>hend
theorem bU {n : Int} (h1 : -9223372036854775808≤n) (h2 : n≤9223372036854775807) : IntKind.i64.wrap n = n:=by
  simp only [IntKind.wrap,IntKind.signed,IntKind.bits,Bool.true_and,decide_eq_true_eq]
  split <;> rename_i h <;> simp at h <;> omega
theorem bl (n : Nat) (h : n < 9223372036854775807) : IntKind.i64.wrap (↑n + 1) = ↑n + 1:=bU (by omega) (by omega)
attribute [simp] base ya eu look Co uh BA ku kY jW eK dm
abbrev ah:=List UInt8
@[simp] theorem XS (s : ah) : ByteArray.size ⟨s.toArray⟩ = s.length:=by simp [ByteArray.size]
@[simp] theorem str_inj (s t : ah) : ((⟨s.toArray⟩ : ByteArray) = ⟨t.toArray⟩)↔s = t:=by
  constructor
  · intro h
    injection h with h
    simpa using congrArg Array.toList h
  · rintro rfl; rfl
theorem Gx (s t : ah) : (⟨s.toArray⟩ : ByteArray) ++ ⟨t.toArray⟩ = ⟨(s ++ t).toArray⟩:=by
  apply ByteArray.ext
  rw [ByteArray.data_append]
  simp
@[simp] def eS (s : ah) : List X:=[.str ⟨s.toArray⟩]
structure Wr where
  at_ : Int
  text : ah
  deriving DecidableEq
structure dY where
  cells : List ah
  pending : List Wr
  deriving DecidableEq
@[simp] def eW (w : Wr) : List X:=[.int .i64 w.at_,.str ⟨w.text.toArray⟩]
@[simp] def fH (m : Md) (d : dY) : List X:=[.row m 1 (d.cells.map eS),.row m 2 (d.pending.map eW)]
@[simp] theorem Xt (m : Md) (l : List ah) : X.bx m (l.map eS) = l.map eS:=by induction l <;> simp_all [X.bx,X.cJ,X.md]
@[simp] theorem Xx (m : Md) (l : List Wr) : X.bx m (l.map eW) = l.map eW:=by induction l <;> simp_all [X.bx,X.cJ,X.md]
@[simp] theorem Vv (l : List ah) : X.clean.aR (l.map eS) = true:=by induction l <;> simp_all [X.clean.aR,X.clean.bE,X.clean]
@[simp] theorem Vz (l : List Wr) : X.clean.aR (l.map eW) = true:=by induction l <;> simp_all [X.clean.aR,X.clean.bE,X.clean]
def dX {α : Type} (f : α→Int→Int) : List α→Int→Int
  | [],n=>n
  | a :: l,n=>if f a n < 0 then -1 else dX f l (f a n)
theorem tj {xt : Nat} {β : Type} {f : ag→bG} (l : List β) (st : Nat→Int→ag) (z : β→Int→Int) (R : ag) (E : Int→ag) (n : Int) (hn : 0≤n) (hm : n≤9223372036854775807)
    (hz : ∀ a n,z a n≤n∨z a n < 0)
    (h : ∀ i b n,l[i]? = some b→i < l.length→0≤n→n≤9223372036854775807→f (st i n) = if z b n < 0 then some (.ret,R) else some (.normal,st (i + 1) (z b n)))
    (hend : ∀ n,f (st l.length n) = some (.exit xt,E n)) :
    aK f (st 0 n) = if dX z l n < 0 then some (.ret,R) else some (.exit xt,E (dX z l n)):=by
  have H:=BC (f:=f) l st (fun b n=>if z b n < 0 then .inr (.ret,R) else .inl (z b n)) E (fun _ n=>0≤n∧n≤9223372036854775807) n ⟨hn,hm⟩
    (fun i b n hb hl hi=>by rw [h i b n hb hl hi.1 hi.2]; by_cases hp : z b n < 0 <;> simp [hp,lv]) (fun i b g g' hb hi hg=>by
      by_cases hp : z b g < 0
      · simp [hp] at hg
      · simp [hp] at hg
        have:=hz b g
        omega) fun g _=>hend g
  refine H.trans ?_
  have : ∀ (r : List β) (n : Int),0≤n→jZ (fun b n=>if z b n < 0 then .inr (Ex.ret,R) else .inl (z b n)) r n = if dX z r n < 0 then .inr (.ret,R) else .inl (dX z r n):=by
    intro r
    induction r with
    | nil=>intro n hn; rw [if_neg (by simp [dX]; omega)]; rfl
    | cons b r ih =>
      intro n hn
      simp only [jZ,dX]
      by_cases hp : z b n < 0
      · simp [hp]
      · simp only [hp,if_false]
        exact ih _ (by omega)
  rw [this l n hn]
  by_cases hp : dX z l n < 0 <;> simp [hp,lv]
theorem P1 {α β : Type} (l : List α) (e : α→β) (z : β) (g : β→β) {i : Nat} (hi : i < l.length) (hg : g z = e l[i]) :
    ((l.take i).map e ++ List.replicate (l.length - i) z).modify i g = (l.take (i + 1)).map e ++ List.replicate (l.length - (i + 1)) z:=by
  apply List.ext_getElem?
  intro j
  rw [List.getElem?_modify]
  rcases Nat.lt_trichotomy j i with h | h | h
  · rw [List.getElem?_append_left (by simp; omega),List.getElem?_append_left (by simp; omega)]
    simp only [List.getElem?_map,List.getElem?_take,if_pos h,if_pos (Nat.lt_succ_of_lt h),if_neg (Nat.ne_of_gt h)]
    cases l[j]? <;> rfl
  · subst h
    rw [List.getElem?_append_right (by simp; omega),List.getElem?_append_left (by simp; omega)]
    have : j - ((l.take j).map e).length = 0:=by simp; omega
    rw [this,List.getElem?_replicate_of_lt (by omega)]
    simp only [List.getElem?_map,List.getElem?_take,if_pos (Nat.lt_succ_self j),List.getElem?_eq_getElem hi,if_true,Option.map_some,← hg]
    rfl
  · rw [List.getElem?_append_right (by simp; omega),List.getElem?_append_right (by simp; omega)]
    have h1 : j - ((l.take i).map e).length = j - i:=by simp; omega
    have h2 : j - ((l.take (i + 1)).map e).length = j - (i + 1):=by simp; omega
    rw [h1,h2,List.getElem?_replicate,List.getElem?_replicate]
    by_cases h3 : j < l.length
    · rw [if_pos (by omega),if_pos (by omega)]
      simp only [Nat.ne_of_lt h,if_false]
      rfl
    · rw [if_neg (by omega),if_neg (by omega)]
      rfl
def dx (rows : List (List X)) (i : Nat) (z : List X) : List (List X):=rows.take i ++ List.replicate (rows.length - i) z
@[simp] theorem Ww (rows : List (List X)) (i : Nat) (z : List X) : (dx rows i z).length = rows.length:=by simp [dx]; omega
@[simp] theorem Lm (rows : List (List X)) (i : Nat) (z : List X) (h : i < rows.length) : (dx rows i z)[i]? = some z:=by
  unfold dx
  rw [List.getElem?_append_right (by simp; omega),List.getElem?_replicate_of_lt (by simp; omega)]
@[simp] theorem Wv (rows : List (List X)) (i : Nat) (z : List X) (h : i < (dx rows i z).length) : (dx rows i z)[i] = z:=by
  have h' : i < rows.length:=by simpa using h
  have:=Lm rows i z h'
  rw [List.getElem?_eq_getElem h] at this
  exact Option.some.inj this
@[simp] theorem Wx (rows : List (List X)) (z : List X) : dx rows 0 z = List.replicate rows.length z:=by simp [dx]
@[simp] theorem Wu (rows : List (List X)) (i : Nat) (z : List X) (h : i = rows.length) : dx rows i z = rows:=by subst h; simp [dx]
@[simp] theorem jF (rows : List (List X)) (i : Nat) (z : List X) (g : List X→List X) (h : i < rows.length) (hg : g z = rows[i]) : (dx rows i z).modify i g = dx rows (i + 1) z:=by
  have:=P1 rows id z g h (by simpa using hg)
  simpa [dx] using this
theorem jT {α : Type} (l : List α) (i : Nat) (f g : α→α) : (l.modify i f).modify i g = l.modify i fun x=>g (f x):=by
  apply List.ext_getElem?
  intro j
  simp only [List.getElem?_modify]
  by_cases h : i = j
  · simp only [h,if_true]; cases l[j]? <;> rfl
  · simp only [h,if_false]; cases l[j]? <;> rfl
theorem ou {α β : Type} : ∀ {a : List α} {b : List β},a.length = b.length→∃ ps : List (α×β),a = ps.map Prod.fst∧b = ps.map Prod.snd
  | [],[],_=>⟨[],rfl,rfl⟩
  | x :: a,y :: b,h=>by
    obtain ⟨ps,h1,h2⟩:=ou (a:=a) (b:=b) (by simpa using h)
    exact ⟨(x,y) :: ps,by simp [← h1],by simp [← h2]⟩
  | [],_ :: _,h=>by cases h
  | _ :: _,[],h=>by cases h
def cT {α : Type} [DecidableEq α] (x : α×α) : Bool:=decide (x.1 = x.2)
theorem mS {α : Type} [DecidableEq α] : ∀ ps : List (α×α),aW cT ps = decide (ps.map Prod.fst = ps.map Prod.snd)
  | []=>rfl
  | x :: ps=>by
    have:=mS ps
    unfold aW at this ⊢
    simp only [List.all_cons,this,cT,List.map_cons,List.cons.injEq]
    exact (Bool.decide_and ..).symm
theorem PE {xt : Nat} {β : Type} {f : ag→bG} (l : List β) (st : Int→ag) (p : β→Bool) (R : β→ag) (E : ag)
    (h : ∀ (i : Nat) b,l[i]? = some b→i < l.length→f (st i) = if p b = true then some (.ret,R b) else some (.normal,st (i - 1)))
    (hend : f (st (-1)) = some (.exit xt,E)) :
    aK f (st (l.length - 1)) = (l.reverse.find? p).elim (some (.exit xt,E)) (fun b=>some (.ret,R b)):=by
  suffices H : ∀ k,k≤l.length→aK f (st ((k : Int) - 1)) = ((l.take k).reverse.find? p).elim (some (.exit xt,E)) (fun b=>some (.ret,R b)) by
    have:=H l.length (Nat.le_refl _)
    rwa [List.take_length] at this
  intro k
  induction k with
  | zero=>intro _; rw [gG]; simp [hend]
  | succ k ih =>
    intro hk
    have hb : l[k]? = some l[k]:=List.getElem?_eq_getElem hk
    have e : ((k + 1 : Nat) : Int) - 1 = (k : Int):=by omega
    rw [e,gG,h k _ hb hk,List.take_add_one,hb]
    simp only [Option.toList_some,List.reverse_append,List.reverse_cons,List.reverse_nil,List.nil_append,List.singleton_append,List.find?_cons]
    by_cases hp : p l[k] = true
    · simp [hp]
    · simp only [hp,Bool.false_eq_true,if_false,RY]
      exact ih (by omega)
def dw (new old : List (List X)) (i : Nat) : List (List X):=new.take i ++ old.drop i
@[simp] theorem Eb (new old : List (List X)) (i : Nat) (h : new.length = old.length) : (dw new old i).length = old.length:=by simp [dw]; omega
@[simp] theorem Ll (new old : List (List X)) (i : Nat) (h : new.length = old.length) (hi : i < old.length) : (dw new old i)[i]? = old[i]?:=by
  unfold dw
  rw [List.getElem?_append_right (by simp; omega),List.getElem?_drop]
  congr 1
  simp; omega
@[simp] theorem Ws (new old : List (List X)) (i : Nat) (hl : i < (dw new old i).length) (h : new.length = old.length) : (dw new old i)[i] = old[i]'(by rw [Eb _ _ _ h] at hl; exact hl):=by
  have hi : i < old.length:=by rw [Eb _ _ _ h] at hl; exact hl
  have:=Ll new old i h hi
  rw [List.getElem?_eq_getElem hl,List.getElem?_eq_getElem hi] at this
  exact Option.some.inj this
@[simp] theorem Wt (new old : List (List X)) : dw new old 0 = old:=by simp [dw]
@[simp] theorem Wq (new old : List (List X)) (i : Nat) (h : new.length = old.length) (hi : i = old.length) : dw new old i = new:=by subst hi; rw [← h]; simp [dw]; omega
theorem rq (new old : List (List X)) (i : Nat) (g : List X→List X) (h : new.length = old.length) (hi : i < old.length) (hg : g (old[i]) = new[i]) : (dw new old i).modify i g = dw new old (i + 1):=by
  apply List.ext_getElem?
  intro j
  unfold dw
  rw [List.getElem?_modify]
  rcases Nat.lt_trichotomy j i with hj | hj | hj
  · rw [List.getElem?_append_left (by simp; omega),List.getElem?_append_left (by simp; omega)]
    simp only [List.getElem?_take,if_pos hj,if_pos (Nat.lt_succ_of_lt hj),if_neg (Nat.ne_of_gt hj)]
    cases new[j]? <;> rfl
  · subst hj
    rw [List.getElem?_append_right (by simp; omega),List.getElem?_append_left (by simp; omega)]
    have : j - (new.take j).length = 0:=by simp; omega
    rw [this,List.getElem?_drop,Nat.add_zero,List.getElem?_take,if_pos (Nat.lt_succ_self j),List.getElem?_eq_getElem hi,List.getElem?_eq_getElem (by omega)]
    simp only [if_true,← hg]
    rfl
  · rw [List.getElem?_append_right (by simp; omega),List.getElem?_append_right (by simp; omega),List.getElem?_drop,List.getElem?_drop]
    have h1 : i + (j - (new.take i).length) = j:=by simp; omega
    have h2 : i + 1 + (j - (new.take (i + 1)).length) = j:=by simp; omega
    rw [h1,h2]
    simp only [Nat.ne_of_lt hj,if_false]
    cases old[j]? <;> rfl
def nK (n : Nat) (out : ah) : ah:=if h : n = 0 then out else nK (n / 10) (UInt8.ofNat (48 + n % 10) :: out)
termination_by n
decreasing_by omega
def nM (k : Int) : ah:=if k≤0 then [109,48] else 109 :: nK k.toNat []
def tq (n : Nat) (k : Int) : List ah:=(List.range n).map fun (i : Nat)=>nM (k + i)
def tu (n : Nat) (k : Int) : List Wr:=(List.range n).map fun (i : Nat)=>⟨k + 2 * i,nM (k + 2 * i + 1)⟩
@[simp] theorem Xd (n : Nat) (k : Int) : (tq n k).length = n:=by simp [tq]
@[simp] theorem Xf (n : Nat) (k : Int) : (tu n k).length = n:=by simp [tu]
@[simp] theorem Xc (n : Nat) (k : Int) (i : Nat) (h : i < (tq n k).length) : (tq n k)[i] = nM (k + i):=by simp [tq]
@[simp] theorem Xe (n : Nat) (k : Int) (i : Nat) (h : i < (tu n k).length) : (tu n k)[i] = ⟨k + 2 * i,nM (k + 2 * i + 1)⟩:=by simp [tu]
def foldI {β γ : Type} (go : Nat→γ→β→γ) : Nat→List β→γ→γ
  | _,[],g=>g
  | i,b :: l,g=>foldI go (i + 1) l (go i g b)
theorem PG {xt : Nat} {β γ : Type} {f : ag→bG} (l : List β) (st : Nat→γ→ag) (go : Nat→γ→β→γ) (E : γ→ag) (Inv : Nat→γ→Prop) (g : γ) (h0 : Inv 0 g)
    (h : ∀ i b g,l[i]? = some b→i < l.length→Inv i g→f (st i g) = some (.normal,st (i + 1) (go i g b)))
    (hI : ∀ i b g,l[i]? = some b→Inv i g→Inv (i + 1) (go i g b))
    (hend : ∀ g,Inv l.length g→f (st l.length g) = some (.exit xt,E g)) :
    aK f (st 0 g) = some (.exit xt,E (foldI go 0 l g)):=by
  suffices H : ∀ (r : List β) (i : Nat) (g : γ),Inv i g→l.drop i = r→i≤l.length→aK f (st i g) = some (.exit xt,E (foldI go i r g)) from H l 0 g h0 rfl (Nat.zero_le _)
  intro r
  induction r with
  | nil =>
    intro i g hi hr hl
    have : i = l.length:=by
      have:=congrArg List.length hr
      simp at this
      omega
    subst this
    rw [gG,hend g hi]
    rfl
  | cons b r ih =>
    intro i g hi hr hl
    have hlt : i < l.length:=by
      rcases Nat.lt_or_ge i l.length with h | h
      · exact h
      · rw [List.drop_eq_nil_of_le h] at hr; cases hr
    have hd:=List.drop_eq_getElem_cons hlt
    rw [hr] at hd
    have hb : l[i]? = some b:=by
      rw [List.getElem?_eq_getElem hlt]
      cases hd; rfl
    have hr' : l.drop (i + 1) = r:=by cases hd; rfl
    rw [gG,h i b g hb hlt hi]
    exact ih (i + 1) _ (hI i b g hb hi) hr' hlt
@[simp] theorem Xy (cs : List ah) (n : Nat) (t : ah) : (cs.map eS).modify n (fun x=>x.set 0 (X.str ⟨t.toArray⟩)) = (cs.set n t).map eS:=by
  apply List.ext_getElem?
  intro j
  rw [List.getElem?_modify,List.getElem?_map,List.getElem?_map,List.getElem?_set]
  by_cases h : n = j
  · subst h
    simp only [if_true]
    by_cases h2 : n < cs.length
    · simp [h2]
    · simp [h2,List.getElem?_eq_none (Nat.le_of_not_lt h2)]
  · simp only [h,if_false]
    cases cs[j]? <;> rfl
@[simp] def eB (b : Bool) : List X:=[.bool b]
@[simp] theorem Xh (m : Md) (l : List Bool) : X.bx m (l.map eB) = l.map eB:=by induction l <;> simp_all [X.bx,X.cJ,X.md]
@[simp] theorem Vj (l : List Bool) : X.clean.aR (l.map eB) = true:=by induction l <;> simp_all [X.clean.aR,X.clean.bE,X.clean]
theorem Gg (l : List ah) : dU (l.map eS) = true:=by induction l <;> simp_all [dU,scalar]
theorem RA (l : List Wr) : dU (l.map eW) = true:=by induction l <;> simp_all [dU,scalar]
attribute [simp] Gg RA
@[simp] theorem Vi (a b : List (List X)) : X.clean.aR (a ++ b) = (X.clean.aR a && X.clean.aR b):=by
  induction a with
  | nil=>simp [X.clean.aR]
  | cons e a ih=>simp [X.clean.aR,ih,Bool.and_assoc]
@[simp] theorem Xg (m : Md) (a b : List (List X)) : X.bx m (a ++ b) = X.bx m a ++ X.bx m b:=by
  induction a with
  | nil=>simp [X.bx]
  | cons e a ih=>simp [X.bx,ih]
structure kj where
  code : List UInt8
  i : Nat
  h : Int
  hi : i≤code.length
  hl : code.length≤9223372036854775807
@[simp] def eU (b : UInt8) : List X:=[.int .u8 (b.toNat : Int)]
@[simp] theorem Xw (m : Md) (l : List UInt8) : X.bx m (l.map eU) = l.map eU:=by induction l <;> simp_all [X.bx,X.cJ,X.md]
@[simp] theorem Vy (l : List UInt8) : X.clean.aR (l.map eU) = true:=by induction l <;> simp_all [X.clean.aR,X.clean.bE,X.clean]
def gw (c : kj) : List X:=[.row .sl 1 (c.code.map eU),.int .i64 c.i,.int .i64 c.h]
@[simp] theorem V3 (c : kj) : (gw c).length = 3:=rfl
@[simp] theorem V5 (c : kj) : (gw c).take 3 = gw c:=rfl
@[simp] theorem V0 (c : kj) : (gw c).drop 3 = []:=rfl
@[simp] theorem V4 (ks : List Nat) (c : kj) : X.kZ ks (gw c) = gw c:=rfl
@[simp] theorem V1 (r : Nat) (p : Path) (c : kj) : X.ep r p (gw c) = gw c:=rfl
@[simp] theorem V2 (r : Nat) (p : Path) (c : kj) : X.kR r p (gw c) = gw c:=rfl
@[simp] theorem VZ (c : kj) : X.clean.bE (gw c) = true:=by simp [gw,X.clean.bE,X.clean]
@[simp] theorem VY (c : kj) : X.bare.fG (gw c) = true:=by simp [gw,X.bare.fG,X.bare]
end M
set_option linter.unusedVariables false
set_option linter.unusedSimpArgs false
namespace M
open Go Go.RowKit
inductive Ty where
  | int (k : IntKind)
  | bool
  | str
  | row (ts : List Ty)
inductive fD : Ty→X→Prop
  | int {k n} : (Lit.int k n).wf = true→fD (.int k) (.int k n)
  | bool {b} : fD .bool (.bool b)
  | str {s : ByteArray} : s.size≤maxLen→fD .str (.str s)
  | row {ts xs} : xs.length≤maxLen→(∀ r : List X,r∈xs→r.length = ts.length)→(∀ (r : List X),r∈xs→∀ (j : Nat) ty x,ts[j]? = some ty→r[j]? = some x→fD ty x)→fD (.row ts) (.row .sl ts.length xs)
structure uI (w : World) (ty : Ty) (c : C) : Prop where
  cell : c.cell
  bO : c.bO
  fits : c.fits .sl
  ok : c.ok w (Zf (fun b _=>b < w.heap.size) fun _ _=>False)
  fp : ∀ b k,¬ c.fp b k
  qV : fD ty c.er
def gQ (w : World) : List Ty→List Value→List C→Prop
  | [],[],[]=>True
  | ty :: ts,v :: vs,c :: cs=>c.val = v∧uI w ty c∧gQ w ts vs cs
  | _,_,_=>False
theorem Ey {w : World} : ∀ {ts : List Ty} {vs : List Value} {cs : List C} {ts' : List Ty} {vs' : List Value} {cs' : List C},gQ w ts vs cs→gQ w ts' vs' cs'→gQ w (ts ++ ts') (vs ++ vs') (cs ++ cs')
  | [],[],[],_,_,_,_,h=>h
  | _ :: _,_ :: _,_ :: _,_,_,_,⟨h1,h2,h3⟩,h=>⟨h1,h2,Ey h3 h⟩
theorem Ez {w : World} : ∀ {ts : List Ty} {vs : List Value} {cs : List C},gQ w ts vs cs→vs.length = ts.length∧cs.length = ts.length∧vs = cs.map C.val
  | [],[],[],_=>⟨rfl,rfl,rfl⟩
  | _ :: _,_ :: _,_ :: _,⟨h1,h2,h3⟩=>by
    obtain ⟨e1,e2,e3⟩:=Ez h3
    exact ⟨by simp [e1],by simp [e2],by simp [h1,← e3]⟩
theorem zE {w : World} : ∀ {ts : List Ty} {vs : List Value} {cs : List C},gQ w ts vs cs→∀ {j : Nat},j < ts.length→∃ ty c,ts[j]? = some ty∧cs[j]? = some c∧vs[j]? = some c.val∧uI w ty c
  | ty :: ts,v :: vs,c :: cs,⟨h1,h2,h3⟩,0,_=>⟨ty,c,rfl,rfl,by simp [h1],h2⟩
  | ty :: ts,v :: vs,c :: cs,⟨h1,h2,h3⟩,j + 1,h=>by
    obtain ⟨ty,c,a1,a2,a3,a4⟩:=zE h3 (j:=j) (by simpa using h)
    exact ⟨ty,c,by simpa using a1,by simpa using a2,by simpa using a3,a4⟩
def qx (P : Program) (r : TypeId→Option (List Ty)) : Nat→List Field→Option (List Ty)
  | _,[]=>some []
  | o,f :: fs=>if f.offset = o then (r f.type).bind fun ts=>if ts.length = P.cellsOf f.type then (qx P r (o + ts.length) fs).map (ts ++ ·) else none else none
def fC (P : Program) : Nat→Bool→TypeId→Option (List Ty)
  | 0,_,_=>none
  | n + 1,deep,t=>match P.underlying t with
    | some .bool=>some [.bool]
    | some (.int k)=>some [.int k]
    | some .string=>some [.str]
    | some (.slice e)=>if deep then (fC P n true e).bind fun ts=>if ts.length = P.cellsOf e∧0 < P.cellsOf e then some [.row ts] else none else none
    | some (.struct fs)=>(qx P (fC P n deep) 0 fs.toList).bind fun ts=>if ts.length = P.cellsOf t then some ts else none
    | _=>none
section
variable {H : Type} {enc : TypeId×Value→H} {P : Program} {w : World} {sp : Nat→Bool} {held : Bool}
theorem GI {r : TypeId→Option (List Ty)} {cs : List Value}
    (hr : ∀ t ts fuel cs' x,r t = some ts→DataW.trod enc P w 0 sp held fuel t cs' = some x→(∀ v∈cs',v∈cs)→∃ Cs,gQ w ts cs' Cs) :
    ∀ (fs : List Field) (o : Nat) (ts : List Ty),qx P r o fs = some ts→(∀ f∈fs,∃ fuel x,DataW.trod enc P w 0 sp held fuel f.type ((cs.drop f.offset).take (P.cellsOf f.type)) = some x) →
      ∃ Cs,gQ w ts ((cs.drop o).take ts.length) Cs
  | [],o,ts,h,_=>by
    cases h
    exact ⟨[],by simp [gQ]⟩
  | f :: fs,o,ts,h,hx=>by
    simp only [qx] at h
    split at h
    · rename_i ho
      simp only [Option.bind_eq_some_iff] at h
      obtain ⟨t1,h1,h⟩:=h
      split at h
      · rename_i hl
        simp only [Option.map_eq_some_iff] at h
        obtain ⟨t2,h2,rfl⟩:=h
        obtain ⟨fuel,x,hf⟩:=hx f (List.mem_cons_self ..)
        obtain ⟨C1,g1⟩:=hr _ _ _ _ _ h1 hf fun v hv=>List.mem_of_mem_drop (List.mem_of_mem_take hv)
        obtain ⟨C2,g2⟩:=GI hr fs _ _ h2 fun f hf=>hx f (List.mem_cons_of_mem _ hf)
        refine ⟨C1 ++ C2,?_⟩
        rw [List.length_append,List.take_add,List.drop_drop]
        rw [ho,← hl] at g1
        exact Ey g1 g2
      · cases h
    · cases h
theorem RL {w : World} {g o n m : Nat} {spot : Option Nat} {vs : List Value} (hn : 0 < n) (h : w.cells? 0 ((⟨g,o,spot⟩ : Addr).add (0 * m)) n = some vs) : spot = none:=by
  obtain ⟨_,hl,e3⟩:=World.cells?_some h
  have e4:=e3 0 hn
  have : ∃ v,vs[0]? = some v:=⟨vs[0],List.getElem?_eq_getElem (by omega)⟩
  obtain ⟨v,hv⟩:=this
  rw [hv] at e4
  have ha : ((⟨g,o,spot⟩ : Addr).add (0 * m)).add 0 = ⟨g,o,spot⟩:=by simp [Addr.add]
  rw [ha] at e4
  unfold World.cell? at e4
  cases spot with
  | none=>rfl
  | some k =>
    split at e4
    · simp at e4
    · cases e4
theorem trod_good : ∀ (n : Nat) (deep : Bool) (t : TypeId) (ts : List Ty),fC P n deep t = some ts→∀ (fuel : Nat) (cs : List Value) (x : DataW H×List MemPlace),DataW.trod enc P w 0 sp held fuel t cs = some x→∃ Cs,gQ w ts cs Cs
  | 0,_,_,_,h,_,_,_,_=>by cases h
  | n + 1,deep,t,ts,h,fuel,cs,x,hx=>by
    simp only [fC] at h
    split at h
    · rename_i hu
      cases h
      obtain ⟨b,rfl,rfl⟩:=DataW.trod_bool hu hx
      exact ⟨[.bool b],rfl,⟨trivial,trivial,trivial,trivial,fun _ _ h=>h,.bool⟩,trivial⟩
    · rename_i k hu
      cases h
      obtain ⟨m,rfl,rfl,hw⟩:=DataW.trod_int hu hx
      exact ⟨[.int k m],rfl,⟨trivial,trivial,trivial,trivial,fun _ _ h=>h,.int hw⟩,trivial⟩
    · rename_i hu
      cases h
      obtain ⟨s,rfl,rfl,hw⟩:=DataW.trod_string hu hx
      exact ⟨[.str s],rfl,⟨trivial,trivial,trivial,hw,fun _ _ h=>h,.str hw⟩,trivial⟩
    · rename_i e hu
      split at h
      · rename_i hd
        simp only [Option.bind_eq_some_iff] at h
        obtain ⟨te,h1,h⟩:=h
        split at h
        · rename_i hl
          obtain ⟨hl,hpos⟩:=hl
          cases h
          rcases DataW.trod_slice hu hx with ⟨rfl,rfl⟩ | ⟨a,len,cap,elems,rest,m,rfl,rfl,rfl,_,hlc,hcm,hel,jJ,_,_⟩
          · refine ⟨[.row .sl te.length none 0 0 fun _ _=>.dead undef],rfl,⟨trivial,trivial,.inr (.inl rfl),⟨Nat.le_refl _,fun i j hi=>by omega,fun i j hi=>by omega,fun h=>(by cases h),fun i j hi=>by omega⟩,fun b k h=>(by cases h.1),?_⟩,trivial⟩
            exact fD.row (xs:=[]) (by simp) (fun r hr=>by cases hr) (fun r hr=>by cases hr)
          · obtain ⟨g,o,spot⟩:=a
            by_cases hl0 : len = 0
            · subst hl0
              refine ⟨[.row .sl te.length (some (g,o,spot)) 0 cap fun _ _=>.dead undef],rfl,⟨trivial,trivial,.inr (.inl rfl),⟨hlc,fun i j hi=>by omega,fun i j hi=>by omega,fun h=>(by cases h),fun i j hi=>by omega⟩,fun b k h=>(by cases h.1),?_⟩,trivial⟩
              exact fD.row (xs:=[]) (by simp) (fun r hr=>by cases hr) (fun r hr=>by cases hr)
            have O8 : spot = none:=by
              have:=jJ 0 (by omega)
              rw [List.getElem?_eq_getElem (by omega),Option.bind_eq_some_iff] at this
              obtain ⟨vs,e1,e2⟩:=this
              exact RL hpos e1
            subst O8
            have hex : ∀ i,∃ (vs : List Value) (l : List C),i < len→w.cells? 0 ((⟨g,o,none⟩ : Addr).add (i * P.cellsOf e)) (P.cellsOf e) = some vs∧gQ w te vs l:=fun i=>by
              by_cases hi : i < len
              · have:=jJ i hi
                rw [List.getElem?_eq_getElem (by omega),Option.bind_eq_some_iff] at this
                obtain ⟨vs,e1,e2⟩:=this
                obtain ⟨l,hl⟩:=trod_good n true _ _ h1 _ _ _ e2
                exact ⟨vs,l,fun _=>⟨e1,hl⟩⟩
              · exact ⟨[],[],fun h=>(hi h).elim⟩
            let vs:=fun i=>(hex i).choose
            let l:=fun i=>(hex i).choose_spec.choose
            have hvl : ∀ i,i < len→w.cells? 0 ((⟨g,o,none⟩ : Addr).add (i * P.cellsOf e)) (P.cellsOf e) = some (vs i)∧gQ w te (vs i) (l i):=fun i=>(hex i).choose_spec.choose_spec
            have hij : ∀ i j,i < len→j < te.length→∃ ty,te[j]? = some ty∧(l i)[j]? = some ((l i).getD j (.dead undef))∧w.cell? ⟨g,o + i * te.length + j,none⟩ = some ((l i).getD j (.dead undef)).val∧uI w ty ((l i).getD j (.dead undef)):=fun i j hi hj=>by
              obtain ⟨e1,e2⟩:=hvl i hi
              obtain ⟨ty,c,a1,a2,a3,a4⟩:=zE e2 hj
              have hc : (l i).getD j (.dead undef) = c:=by rw [List.getD_eq_getElem?_getD,a2]; rfl
              rw [hc]
              obtain ⟨_,_,e3⟩:=World.cells?_some e1
              have e4:=e3 j (by omega)
              rw [a3] at e4
              refine ⟨ty,a1,a2,?_,a4⟩
              rw [← e4]
              congr 1
              rw [hl]
              unfold Addr.add
              split <;> split <;> simp_all
            have hb : ∀ i j,i < len→j < te.length→g < w.heap.size:=fun i j hi hj=>by
              obtain ⟨_,_,_,h3,_⟩:=hij i j hi hj
              exact World.block_lt_of_cell? w _ h3
            refine ⟨[.row .sl te.length (some (g,o,none)) len cap fun i j=>(l i).getD j (.dead undef)],rfl,⟨trivial,trivial,.inr (.inl rfl),⟨hlc,fun i j hi hj=>⟨g,o,rfl,?_,fun _=>hb i j hi hj⟩,fun i j hi hj=>?_,fun h=>(by cases h),fun i j hi hj b k hf=>?_⟩,fun b k h=>(by cases h.1),?_⟩,trivial⟩
            · obtain ⟨ty,_,_,h3,h4⟩:=hij i j hi hj
              exact h3
            · obtain ⟨ty,_,_,h3,h4⟩:=hij i j hi hj
              exact ⟨h4.cell,h4.bO,h4.fits,h4.ok⟩
            · obtain ⟨ty,_,_,h3,h4⟩:=hij i j hi hj
              exact (h4.fp b k hf).elim
            · refine fD.row (by simpa using Nat.le_trans hlc hcm) (fun r hr=>?_) fun r hr j ty x hty Ak=>?_
              · simp only [List.mem_map,List.mem_range] at hr
                obtain ⟨i,_,rfl⟩:=hr
                simp
              · simp only [List.mem_map,List.mem_range] at hr
                obtain ⟨i,hi,rfl⟩:=hr
                have hj : j < te.length:=by
                  rcases Nat.lt_or_ge j te.length with h | h
                  · exact h
                  · rw [List.getElem?_eq_none h] at hty; cases hty
                obtain ⟨ty',e1,_,_,h4⟩:=hij i j hi hj
                rw [e1] at hty
                cases hty
                rw [List.getElem?_map,List.getElem?_range hj] at Ak
                simp only [Option.map_some,Option.some.injEq] at Ak
                subst Ak
                exact h4.qV
        · cases h
      · cases h
    · rename_i fs hu
      simp only [Option.bind_eq_some_iff] at h
      obtain ⟨te,h1,h⟩:=h
      split at h
      · rename_i hl
        cases h
        obtain ⟨xs,m,rfl,rfl,hcs,hxl,jJ⟩:=DataW.trod_struct hu hx
        obtain ⟨Cs,hC⟩:=GI (cs:=cs) (fun t ts' fuel cs' x hr ht hm=>trod_good n deep t ts' hr fuel cs' x ht) fs.toList 0 ts h1 fun f hf=>by
          obtain ⟨i,hi,rfl⟩:=List.getElem_of_mem hf
          have hi' : i < fs.size:=by simpa using hi
          have:=jJ i (fs[i]) (by simp [hi'])
          rw [List.getElem?_eq_getElem (by omega)] at this
          exact ⟨_,_,by simpa using this⟩
        refine ⟨Cs,?_⟩
        rw [List.drop_zero,hl,← hcs,List.take_length] at hC
        exact hC
      · cases h
    · cases h
theorem Cy : ∀ (n : Nat) (deep : Bool) (t : TypeId) (ts : List Ty),fC P n deep t = some ts→∀ (fuel : Nat) (cs : List Value) (x : DataW H×List MemPlace),DataW.trod enc P w 0 (fun _=>true) held fuel t cs = some x→DataW.trod enc P w 0 (fun b=>decide (b < w.heap.size)) held fuel t cs = some x
  | 0,_,_,_,h,_,_,_,_=>by cases h
  | n + 1,deep,t,ts,h,0,cs,x,hx=>by simp [DataW.trod] at hx
  | n + 1,deep,t,ts,h,fuel + 1,cs,x,hx=>by
    simp only [fC] at h
    split at h
    · rename_i hu
      obtain ⟨b,rfl,rfl⟩:=DataW.trod_bool hu hx
      simp [DataW.trod,hu]
    · rename_i k hu
      obtain ⟨m,rfl,rfl,hw⟩:=DataW.trod_int hu hx
      simp [DataW.trod,hu,hw]
    · rename_i hu
      obtain ⟨s,rfl,rfl,hw⟩:=DataW.trod_string hu hx
      simp [DataW.trod,hu,hw]
    · rename_i e hu
      split at h
      · simp only [Option.bind_eq_some_iff] at h
        obtain ⟨te,h1,h⟩:=h
        split at h
        · rename_i hl
          obtain ⟨hl,hpos⟩:=hl
          rcases DataW.trod_slice hu hx with ⟨rfl,rfl⟩ | ⟨a,len,cap,elems',rest',m,_,rfl,_⟩
          · simp [DataW.trod,hu]
          · unfold DataW.trod at hx ⊢
            simp only [hu] at hx ⊢
            split at hx
            · rename_i hc
              rw [if_pos hc]
              simp only [Option.map_eq_some_iff,Option.bind_eq_some_iff,if_true] at hx ⊢
              obtain ⟨elems,he,rest,nr,rfl⟩:=hx
              have one : ∀ (i : Nat) (y : DataW H×List MemPlace),(w.cells? 0 (a.add (i * P.cellsOf e)) (P.cellsOf e)).bind (DataW.trod enc P w 0 (fun _=>true) held fuel e) = some y→(w.cells? 0 (a.add (i * P.cellsOf e)) (P.cellsOf e)).bind (DataW.trod enc P w 0 (fun b=>decide (b < w.heap.size)) held fuel e) = some y:=fun i y hv=>by
                simp only [Option.bind_eq_some_iff] at hv ⊢
                obtain ⟨cs',gd,hy'⟩:=hv
                exact ⟨cs',gd,Cy n true _ _ h1 _ _ _ hy'⟩
              refine ⟨elems,mapM_carry he fun i y _ _ hv=>one i y hv,rest,?_,rfl⟩
              by_cases hb : a.block < w.heap.size
              · rw [if_pos (by simpa using hb)]
                exact mapM_carry nr fun i y _ _ hv=>one (len + i) y hv
              · rw [if_neg (by simpa using hb)]
                have : cap - len = 0:=by
                  rcases Nat.eq_zero_or_pos (cap - len) with h | h
                  · exact h
                  · have h0:=mapM_some_get nr 0 0 (by simp [h])
                    have hl' : 0 < rest.length:=by have:=mapM_some_length nr; simp at this; omega
                    rw [List.getElem?_eq_getElem hl',Option.bind_eq_some_iff] at h0
                    obtain ⟨vs,e1,_⟩:=h0
                    have:=World.cells?_block e1 hpos
                    refine (hb ?_).elim
                    unfold Addr.add at this
                    split at this <;> exact this
                rw [this] at nr
                exact nr
            · cases hx
        · cases h
      · cases h
    · rename_i fs hu
      simp only [Option.bind_eq_some_iff] at h
      obtain ⟨te,h1,h⟩:=h
      unfold DataW.trod at hx ⊢
      simp only [hu] at hx ⊢
      have each : ∀ (o : Nat) (l : List Field) (ts : List Ty),qx P (fC P n deep) o l = some ts→∀ f∈l,∃ t1,fC P n deep f.type = some t1:=by
        intro o l
        induction l generalizing o with
        | nil=>intro _ _ f hf; cases hf
        | cons f l ih =>
          intro ts h f' hf'
          simp only [qx] at h
          split at h
          · simp only [Option.bind_eq_some_iff] at h
            obtain ⟨t1,e1,h⟩:=h
            split at h
            · simp only [Option.map_eq_some_iff] at h
              obtain ⟨t2,e2,_⟩:=h
              rcases List.mem_cons.1 hf' with rfl | hf'
              · exact ⟨t1,e1⟩
              · exact ih _ _ e2 f' hf'
            · cases h
          · cases h
      split at hx
      · rename_i hc
        rw [if_pos hc]
        simp only [Option.map_eq_some_iff] at hx ⊢
        obtain ⟨xs,hx,rfl⟩:=hx
        refine ⟨xs,mapM_carry hx fun f y hf _ hv=>?_,rfl⟩
        obtain ⟨t1,e1⟩:=each _ _ _ h1 f hf
        exact Cy n deep _ _ e1 _ _ _ hv
      · cases hx
    · cases h
inductive iS where
  | one (ty : Ty)
  | agg (tys : List Ty)
inductive ki : iS→X→Prop
  | one {ty x} : fD ty x→ki (.one ty) x
  | agg {tys : List Ty} {l : List X} : l.length = tys.length→(∀ (j : Nat) ty x,tys[j]? = some ty→l[j]? = some x→fD ty x)→ki (.agg tys) (.agg l)
def mT (P : Program) (t : TypeId) : Option iS:=match P.underlying t with
  | some (.struct _)=>(fC P 20 true t).map .agg
  | some .bool=>some (.one .bool)
  | some (.int k)=>some (.one (.int k))
  | some .string=>some (.one .str)
  | some (.slice _)=>(fC P 20 true t).bind fun
    | [ty]=>some (.one ty)
    | _=>none
  | _=>none
theorem CW {c : C} (h1 : c.cell) (h2 : c.bO) : c.bare:=by
  cases c <;> first | trivial | exact h2.elim
structure CM (w : World) (a : iS) (v : Value) (c : C) : Prop where
  val : c.val = v
  ok : c.ok w (Zf (fun b _=>b < w.heap.size) fun _ _=>False)
  bare : c.bare
  fp : ∀ b k,¬ c.fp b k
  qV : ki a c.er
theorem vr {ty : Ty} {cs : List Value} {Cs : List C} {v : Value} (h : gQ w [ty] cs Cs) (e : cs = [v]) : ∃ c,CM w (.one ty) v c:=by
  subst e
  match Cs,h with
  | [c],⟨h1,h2,_⟩=>exact ⟨c,h1,h2.ok,CW h2.cell h2.bO,h2.fp,.one h2.qV⟩
theorem IA {r : Reach} {base : Nat} {t : TypeId} {v : Value} {d : DataW H} {p : List MemPlace} {a : iS} (ha : mT P t = some a) (hv : Value.okWide P w r base t v) (hd : DataW.Trod enc P w 0 sp held t v d p) : ∃ c,CM w a v c:=by
  obtain ⟨fuel,hf⟩:=hd
  unfold mT at ha
  split at ha
  · rename_i fs hu
    simp only [Option.map_eq_some_iff] at ha
    obtain ⟨ts,ht,rfl⟩:=ha
    unfold Value.okWide at hv
    rw [hu] at hv
    obtain ⟨cs,rfl,_,ts',_,_,hcell⟩:=hv
    obtain ⟨Cs,hC⟩:=trod_good _ _ _ _ ht _ _ _ hf
    obtain ⟨l1,l2,l3⟩:=Ez hC
    have jJ : ∀ j,j < Cs.length→∃ ty,ts[j]? = some ty∧uI w ty (Cs.getD j (.dead undef)):=fun j hj=>by
      obtain ⟨ty,c,a1,a2,a3,a4⟩:=zE hC (j:=j) (by omega)
      exact ⟨ty,a1,by rw [List.getD_eq_getElem?_getD,a2]; exact a4⟩
    refine ⟨.agg Cs.length fun j=>Cs.getD j (.dead undef),?_,⟨fun j hj=>?_,fun j hj b k hf=>?_⟩,fun j hj=>?_,fun b k ⟨j,hj,hf⟩=>?_,?_⟩
    · show Value.agg _ = _
      congr 1
      apply Array.ext'
      show (List.range Cs.length).map (fun j=>(Cs.getD j (.dead undef)).val) = cs.toList
      have : (Value.agg cs).cells.toList = cs.toList:=rfl
      rw [← this,l3]
      letI : Bs:=⟨w⟩
      exact iN Cs _ C.val
    · obtain ⟨_,_,h⟩:=jJ j hj; exact ⟨h.cell,h.ok⟩
    · obtain ⟨_,_,h⟩:=jJ j hj; exact (h.fp b k hf).elim
    · obtain ⟨_,_,h⟩:=jJ j hj; exact CW h.cell h.bO
    · obtain ⟨_,_,h⟩:=jJ j hj; exact h.fp b k hf
    · refine ki.agg (by simpa using l2) fun j ty x hty hx=>?_
      have hj : j < Cs.length:=by
        rcases Nat.lt_or_ge j Cs.length with h | h
        · exact h
        · rw [List.getElem?_eq_none (by simpa using h)] at hx; cases hx
      obtain ⟨ty',e1,h⟩:=jJ j hj
      rw [e1] at hty
      cases hty
      rw [List.getElem?_map,List.getElem?_range hj] at hx
      simp only [Option.map_some,Option.some.injEq] at hx
      subst hx
      exact h.qV
  · rename_i hu
    cases ha
    obtain ⟨Cs,hC⟩:=trod_good 1 true t [.bool] (by simp [fC,hu]) _ _ _ hf
    obtain ⟨b,hb,_⟩:=DataW.trod_bool hu hf
    exact vr hC (v:=v) (by
      unfold Value.okWide at hv; rw [hu] at hv
      unfold Cell.okWide at hv; rw [hu] at hv; unfold Cell.ok at hv; rw [hu] at hv
      cases v <;> first | rfl | (simp at hv; done))
  · rename_i k hu
    cases ha
    obtain ⟨m,hb,_⟩:=DataW.trod_int hu hf
    obtain ⟨Cs,hC⟩:=trod_good 1 true t [.int k] (by simp [fC,hu]) _ _ _ hf
    exact vr hC (v:=v) (by
      unfold Value.okWide at hv; rw [hu] at hv
      unfold Cell.okWide at hv; rw [hu] at hv; unfold Cell.ok at hv; rw [hu] at hv
      cases v <;> first | rfl | (simp at hv; done))
  · rename_i hu
    cases ha
    obtain ⟨m,hb,_⟩:=DataW.trod_string hu hf
    obtain ⟨Cs,hC⟩:=trod_good 1 true t [.str] (by simp [fC,hu]) _ _ _ hf
    exact vr hC (v:=v) (by
      unfold Value.okWide at hv; rw [hu] at hv
      unfold Cell.okWide at hv; rw [hu] at hv; unfold Cell.ok at hv; rw [hu] at hv
      cases v <;> first | rfl | (simp at hv; done))
  · rename_i e hu
    simp only [Option.bind_eq_some_iff] at ha
    obtain ⟨ts,ht,ha⟩:=ha
    split at ha
    · rename_i ty
      cases ha
      have hc : Cell.okWide P w r base t v:=by unfold Value.okWide at hv; rw [hu] at hv; exact hv
      have hv1 : v.cells.toList = [v]:=by
        unfold Cell.okWide at hc; rw [hu] at hc; unfold Cell.ok at hc; rw [hu] at hc
        cases v <;> first | rfl | (simp at hc; done)
      obtain ⟨Cs,hC⟩:=trod_good _ _ _ _ ht _ _ _ hf
      exact vr hC hv1
    · cases ha
  · cases ha
def ov : List iS→List X→Prop
  | [],[]=>True
  | a :: as,x :: xs=>ki a x∧ov as xs
  | _,_=>False
theorem CU {r : Reach} {base : Nat} : ∀ {ts : List TypeId} {as : List iS} {vs : List Value} {ds : List (DataW H)} {p : List MemPlace},ts.map (mT P) = as.map some →
    (∀ (j : Nat) t v,ts[j]? = some t→vs[j]? = some v→Value.okWide P w r base t v)→DataW.TrodAll enc P w 0 sp held ts vs ds p →
    ∃ cs : List C,cs.map C.val = vs∧(∀ c∈cs,c.ok w (Zf (fun b _=>b < w.heap.size) fun _ _=>False)∧c.bare∧∀ b k,¬ c.fp b k)∧ov as (cs.map C.er)
  | [],[],[],[],_,_,_,_=>⟨[],rfl,fun _ h=>(by cases h),trivial⟩
  | t :: ts,a :: as,v :: vs,d :: ds,_,ha,hv,⟨p,q,h1,h2,_⟩=>by
    simp only [List.map_cons,List.cons.injEq] at ha
    obtain ⟨c,hc⟩:=IA ha.1 (hv 0 t v rfl rfl) h1
    obtain ⟨cs,e1,e2,e3⟩:=CU ha.2 (fun j t' v' ht eR=>hv (j + 1) t' v' (by simpa using ht) (by simpa using eR)) h2
    refine ⟨c :: cs,by simp [hc.val,e1],fun x hx=>?_,⟨hc.qV,e3⟩⟩
    rcases List.mem_cons.1 hx with rfl | hx
    · exact ⟨hc.ok,hc.bare,hc.fp⟩
    · exact e2 x hx
theorem Vd {r : Reach} {base : Nat} {ts : List TypeId} {as : List iS} {vs : List Value} {ds : List (DataW H)} {p : List MemPlace} {f : FuncId} (ha : ts.map (mT P) = as.map some)
    (hv : ∀ (j : Nat) t v,ts[j]? = some t→vs[j]? = some v→Value.okWide P w r base t v) (hd : DataW.TrodAll enc P w 0 sp held ts vs ds p)
    (NT : ∀ xs,ov as xs→@AC ⟨w⟩ P f xs fun r _=>r = .bool true) : Calls P f vs.toArray w fun e w'=>e = .returned (.bool true)∧Below w.heap.size w w':=by
  obtain ⟨cs,rfl,hcs,hc⟩:=CU ha hv hd
  refine (NT _ hc w (fun b _=>b < w.heap.size) (fun _ _=>False) cs rfl ⟨fun x hx=>(hcs x hx).1,fun x hx=>(hcs x hx).2.1,fun x hx b k hf=>((hcs x hx).2.2 b k hf).elim,fun b k h=>h.elim id False.elim,?_⟩ fun b hb=>⟨rfl,fun k=>.inl hb⟩).mono fun e w' ⟨r,ps,ay,hD,hr⟩=>?_
  · refine List.pairwise_iff_getElem.2 fun i j hi hj _ b k hf=>((hcs _ (List.getElem_mem hi)).2.2 b k hf).elim
  · letI : Bs:=⟨w⟩
    have hr':=lV hr
    subst hr'
    exact ⟨hD.ends,(hD.ext.mono (S':=fun _ _=>False) fun b k ⟨x,hx,hf⟩ _=>(hcs x hx).2.2 b k hf).below⟩
theorem Iz {t : TypeId} {a : iS} (h : mT P t = some a) : ∃ n deep ts,fC P n deep t = some ts:=by
  unfold mT at h
  split at h
  · simp only [Option.map_eq_some_iff] at h
    obtain ⟨ts,ht,_⟩:=h
    exact ⟨_,_,ts,ht⟩
  · rename_i hu; exact ⟨1,true,[.bool],by simp [fC,hu]⟩
  · rename_i k hu; exact ⟨1,true,[.int k],by simp [fC,hu]⟩
  · rename_i hu; exact ⟨1,true,[.str],by simp [fC,hu]⟩
  · simp only [Option.bind_eq_some_iff] at h
    obtain ⟨ts,ht,_⟩:=h
    exact ⟨_,_,ts,ht⟩
  · cases h
theorem Up {w' : World} (hb : Below w.heap.size w w') : ∀ {ts : List TypeId} {as : List iS} {vs : List Value} {ds : List (DataW H)} {p : List MemPlace},ts.map (mT P) = as.map some →
    DataW.TrodAll enc P w 0 (fun _=>true) held ts vs ds p→DataW.TrodAll enc P w' 0 (fun b=>decide (b < w.heap.size)) held ts vs ds p
  | [],[],[],[],_,_,h=>h
  | t :: ts,a :: as,v :: vs,d :: ds,_,ha,⟨p,q,⟨fuel,h1⟩,h2,e⟩=>by
    simp only [List.map_cons,List.cons.injEq] at ha
    obtain ⟨n,deep,tt,ht⟩:=Iz ha.1
    have h3:=Cy n deep t tt ht _ _ _ h1
    exact ⟨p,q,⟨fuel,DataW.trod_carry _ _ _ _ h3 fun m hm=>hb.same (DataW.trod_lt _ _ _ _ h3 m hm)⟩,Up hb ha.2 h2,e⟩
end
end M
set_option linter.unusedVariables false
set_option linter.unusedSimpArgs false
namespace M
open Go
def cW (ts : List Ty) (r : List X) : Prop:=r.length = ts.length∧∀ (j : Nat) ty x,ts[j]? = some ty→r[j]? = some x→fD ty x
theorem cW.nil {r : List X} (h : cW [] r) : r = []:=List.length_eq_zero_iff.1 h.1
theorem cW.cons {ty : Ty} {ts : List Ty} {r : List X} (h : cW (ty :: ts) r) : ∃ x r',r = x :: r'∧fD ty x∧cW ts r':=by
  obtain ⟨h1,h2⟩:=h
  cases r with
  | nil=>cases h1
  | cons x r=>exact ⟨x,r,rfl,h2 0 ty x rfl rfl,by simpa using h1,fun j ty x ht hx=>h2 (j + 1) ty x (by simpa using ht) (by simpa using hx)⟩
theorem iB {x : X} (h : fD .str x) : ∃ s : ah,x = .str ⟨s.toArray⟩∧s.length≤9223372036854775807:=by
  cases h with
  | str h=>rename_i s; exact ⟨s.data.toList,by simp,by rw [Array.length_toList]; exact h⟩
theorem IK {n : Int} (h : (Lit.int .i64 n).wf = true) : -9223372036854775808≤n∧n≤9223372036854775807:=by
  have h' : (decide (IntKind.i64.min≤n) && decide (n≤IntKind.i64.max)) = true:=h
  rw [Bool.and_eq_true,decide_eq_true_eq,decide_eq_true_eq] at h'
  exact h'
theorem jD {x : X} (h : fD (.int .i64) x) : ∃ n : Int,x = .int .i64 n∧-9223372036854775808≤n∧n≤9223372036854775807:=by
  cases h with
  | int h =>
    rename_i n
    refine ⟨n,rfl,?_⟩
    exact IK h
theorem FA {α : Type} {e : α→List X} {ok : α→Prop} : ∀ {xs : List (List X)},(∀ r∈xs,∃ a,r = e a∧ok a)→∃ l : List α,xs = l.map e∧∀ a∈l,ok a
  | [],_=>⟨[],rfl,fun _ h=>by cases h⟩
  | r :: xs,h=>by
    obtain ⟨a,e1,e2⟩:=h r (List.mem_cons_self ..)
    obtain ⟨l,e3,e4⟩:=FA (fun r hr=>h r (List.mem_cons_of_mem _ hr))
    refine ⟨a :: l,by simp [e1,e3],fun b hb=>?_⟩
    rcases List.mem_cons.1 hb with rfl | hb
    · exact e2
    · exact e4 b hb
theorem lS {α : Type} (e : α→List X) (ok : α→Prop) {ts : List Ty} {x : X} (h : fD (.row ts) x) (hr : ∀ r,cW ts r→∃ a,r = e a∧ok a) : ∃ l : List α,x = .row .sl ts.length (l.map e)∧l.length≤9223372036854775807∧∀ a∈l,ok a:=by
  cases h with
  | row h1 h2 h3 =>
    rename_i xs
    obtain ⟨l,rfl,hl⟩:=FA (e:=e) (ok:=ok) (xs:=xs) fun r hr'=>hr r ⟨h2 r hr',h3 r hr'⟩
    rw [List.length_map] at h1
    exact ⟨l,rfl,h1,hl⟩
theorem DC {tys : List Ty} {x : X} (h : ki (.agg tys) x) : ∃ l,x = .agg l∧cW tys l:=by
  cases h with
  | agg h1 h2=>exact ⟨_,rfl,h1,h2⟩
theorem VL {a : iS} {as : List iS} {xs : List X} (h : ov (a :: as) xs) : ∃ x xs',xs = x :: xs'∧ki a x∧ov as xs':=by
  match xs,h with
  | x :: xs',⟨h1,h2⟩=>exact ⟨x,xs',rfl,h1,h2⟩
theorem VM {xs : List X} (h : ov [] xs) : xs = []:=by
  match xs,h with
  | [],_=>rfl
structure UH (d : dY) : Prop where
  hb : d.cells.length≤9223372036854775807
  hs : ∀ s∈d.cells,s.length≤9223372036854775807
  hb' : d.pending.length≤9223372036854775807
  hs' : ∀ s∈d.pending,s.text.length≤9223372036854775807
  hi : ∀ s∈d.pending,-9223372036854775808≤s.at_∧s.at_≤9223372036854775807
end M
set_option linter.unusedVariables false
set_option linter.unusedSimpArgs false
namespace M
open Go
end M
set_option linter.unusedVariables false
set_option linter.unusedSimpArgs false
namespace M
open Go
theorem Uq (m : Nat) (h : m < 256) : mL [[.int .u8 (m : Int)]] = some [UInt8.ofNat m]:=by
  have:=GK [UInt8.ofNat m]
  have e : ((UInt8.ofNat m).toNat : Int) = m:=by
    rw [UInt8.toNat_ofNat']
    omega
  simp only [List.map_cons,List.map_nil,e] at this
  exact this
theorem GW {n : Int} (h1 : 0≤n) (h2 : n < 256) : IntKind.u8.wrap n = n:=by
  simp only [IntKind.wrap,IntKind.signed,IntKind.bits,Bool.false_and,Bool.false_eq_true,if_false]
  omega
end M
set_option linter.unusedVariables false
set_option linter.unusedSimpArgs false
namespace M
open Go
def wS (s : ah) : Nat:=s.length
def wL {α : Type} (w : α→Nat) (l : List α) : Nat:=l.length + (l.map w).sum
theorem gK {α : Type} {w : α→Nat} : ∀ {l : List α} {a : α},a∈l→w a≤wL w l
  | b :: l,a,h=>by
    rcases List.mem_cons.1 h with rfl | h
    · simp [wL]; omega
    · have:=gK (w:=w) h
      simp [wL] at this ⊢; omega
theorem bC {α : Type} {w : α→Nat} (l : List α) : l.length≤wL w l:=by unfold wL; omega
def aF (n : Int) (w : Nat) : Int:=if (w : Int)≤n then n - w else -1
theorem cl (n : Int) (w : Nat) : ((w : Int)≤n∧aF n w = n - w)∨(n < (w : Int)∧aF n w = -1):=by
  unfold aF
  split
  · exact .inl ⟨by assumption,rfl⟩
  · exact .inr ⟨by omega,rfl⟩
theorem um (w : Nat) (n : Int) : aF n w≤n∨aF n w < 0:=by have:=cl n w; omega
theorem qt {α : Type} (w : α→Nat) : ∀ (l : List α) (n : Int),0≤n→dX (fun b n=>aF n (w b)) l n = aF n (l.map w).sum
  | [],n,h=>by simp [dX,aF,h]
  | b :: l,n,h=>by
    simp only [dX,List.map_cons,List.sum_cons]
    rcases cl n (w b) with ⟨h1,h2⟩ | ⟨h1,h2⟩
    · rw [if_neg (by omega),qt w l _ (by omega),h2]
      rcases cl (n - w b) (l.map w).sum with ⟨h3,h4⟩ | ⟨h3,h4⟩ <;> rcases cl n (w b + (l.map w).sum) with ⟨h5,h6⟩ | ⟨h5,h6⟩ <;> omega
    · rw [if_pos (by omega)]
      rcases cl n (w b + (l.map w).sum) with ⟨h5,h6⟩ | ⟨h5,h6⟩ <;> omega
def bI (n : Int) : Prop:=-9223372036854775808≤n∧n≤9223372036854775807
def bS (s : ah) : Prop:=s.length≤9223372036854775807
def bB (_ : Bool) : Prop:=True
def bL {α : Type} (b : α→Prop) (l : List α) : Prop:=l.length≤9223372036854775807∧∀ a∈l,b a
@[simp] def eI (n : Int) : List X:=[.int .i64 n]
@[simp] theorem Xn (m : Md) (l : List Int) : X.bx m (l.map eI) = l.map eI:=by induction l <;> simp_all [X.bx,X.cJ,X.md]
@[simp] theorem Vp (l : List Int) : X.clean.aR (l.map eI) = true:=by induction l <;> simp_all [X.clean.aR,X.clean.bE,X.clean]
structure aH where
  name : ah
  value : ah
  deriving DecidableEq
@[simp] def aE (a : aH) : List X:=[.str ⟨(a.name).toArray⟩,.str ⟨(a.value).toArray⟩]
@[simp] theorem Xm (m : Md) (l : List aH) : X.bx m (l.map aE) = l.map aE:=by induction l <;> simp_all [X.bx,X.cJ,X.md]
@[simp] theorem Vo (l : List aH) : X.clean.aR (l.map aE) = true:=by induction l <;> simp_all [X.clean.aR,X.clean.bE,X.clean]
def aL (a : aH) : Nat:=a.name.length + a.value.length
structure lI (x : aH) : Prop where
  Pq : bS x.name
  Px : bS x.value
theorem KM (a b : aH) : decide (a = b) = (decide (a.name = b.name) && decide (a.value = b.value)):=by
  cases a; cases b; simp [Bool.and_assoc]
structure cM where
  status : Int
  fields : List aH
  body : ah
  deriving DecidableEq
@[simp] def eC (m : Md) (a : cM) : List X:=[.int .i64 a.status,.row m 2 ((a.fields).map aE),.str ⟨(a.body).toArray⟩]
@[simp] theorem Xs (m m' : Md) (l : List cM) : X.bx m (l.map (eC m')) = l.map (eC m):=by induction l <;> simp_all [X.bx,X.cJ,X.md]
@[simp] theorem Vu (l : List cM) : X.clean.aR (l.map (eC .own)) = true:=by induction l <;> simp_all [X.clean.aR,X.clean.bE,X.clean]
@[simp] theorem VH (l : List cM) : X.clean.aR (l.map (eC .sl)) = true:=by induction l <;> simp_all [X.clean.aR,X.clean.bE,X.clean]
def cr (a : cM) : Nat:=wL aL a.fields + a.body.length
structure oA (x : cM) : Prop where
  W6 : bI x.status
  AK : (bL lI) x.fields
  AJ : bS x.body
theorem KQ (a b : cM) : decide (a = b) = (decide (a.status = b.status) && decide (a.fields = b.fields) && decide (a.body = b.body)):=by
  cases a; cases b; simp [Bool.and_assoc]
structure Rq where
  method : Int
  path : ah
  fields : List aH
  body : ah
  deriving DecidableEq
@[simp] def cF (m : Md) (a : Rq) : List X:=[.int .i64 a.method,.str ⟨(a.path).toArray⟩,.row m 2 ((a.fields).map aE),.str ⟨(a.body).toArray⟩]
@[simp] theorem Xr (m m' : Md) (l : List Rq) : X.bx m (l.map (cF m')) = l.map (cF m):=by induction l <;> simp_all [X.bx,X.cJ,X.md]
@[simp] theorem Vt (l : List Rq) : X.clean.aR (l.map (cF .own)) = true:=by induction l <;> simp_all [X.clean.aR,X.clean.bE,X.clean]
@[simp] theorem VG (l : List Rq) : X.clean.aR (l.map (cF .sl)) = true:=by induction l <;> simp_all [X.clean.aR,X.clean.bE,X.clean]
def dh (a : Rq) : Nat:=a.path.length + wL aL a.fields + a.body.length
structure lJ (x : Rq) : Prop where
  WV : bI x.method
  AL : bS x.path
  AK : (bL lI) x.fields
  AJ : bS x.body
theorem KP (a b : Rq) : decide (a = b) = (decide (a.method = b.method) && decide (a.path = b.path) && decide (a.fields = b.fields) && decide (a.body = b.body)):=by
  cases a; cases b; simp [Bool.and_assoc]
structure Ob where
  path : ah
  names : List ah
  values : List ah
  resp : cM
  t : Int
  deriving DecidableEq
@[simp] def bw (m : Md) (a : Ob) : List X:=[.str ⟨(a.path).toArray⟩,.row m 1 ((a.names).map eS),.row m 1 ((a.values).map eS),.int .i64 a.resp.status,.row m 2 ((a.resp.fields).map aE),.str ⟨(a.resp.body).toArray⟩,.int .i64 a.t]
@[simp] theorem Xp (m m' : Md) (l : List Ob) : X.bx m (l.map (bw m')) = l.map (bw m):=by induction l <;> simp_all [X.bx,X.cJ,X.md]
@[simp] theorem Vr (l : List Ob) : X.clean.aR (l.map (bw .own)) = true:=by induction l <;> simp_all [X.clean.aR,X.clean.bE,X.clean]
@[simp] theorem VE (l : List Ob) : X.clean.aR (l.map (bw .sl)) = true:=by induction l <;> simp_all [X.clean.aR,X.clean.bE,X.clean]
def bH (a : Ob) : Nat:=a.path.length + wL wS a.names + wL wS a.values + cr a.resp
structure qO (x : Ob) : Prop where
  AL : bS x.path
  Pr : (bL bS) x.names
  Py : (bL bS) x.values
  wH : oA x.resp
  AN : bI x.t
theorem KO (a b : Ob) : decide (a = b) = (decide (a.path = b.path) && decide (a.names = b.names) && decide (a.values = b.values) && decide (a.resp = b.resp) && decide (a.t = b.t)):=by
  cases a; cases b; simp [Bool.and_assoc]
structure Kp where
  obj : Ob
  at_ : Int
  seq : Int
  deriving DecidableEq
@[simp] def aP (m : Md) (a : Kp) : List X:=[.str ⟨(a.obj.path).toArray⟩,.row m 1 ((a.obj.names).map eS),.row m 1 ((a.obj.values).map eS),.int .i64 a.obj.resp.status,.row m 2 ((a.obj.resp.fields).map aE),.str ⟨(a.obj.resp.body).toArray⟩,.int .i64 a.obj.t,.int .i64 a.at_,.int .i64 a.seq]
@[simp] theorem Xo (m m' : Md) (l : List Kp) : X.bx m (l.map (aP m')) = l.map (aP m):=by induction l <;> simp_all [X.bx,X.cJ,X.md]
@[simp] theorem Vq (l : List Kp) : X.clean.aR (l.map (aP .own)) = true:=by induction l <;> simp_all [X.clean.aR,X.clean.bE,X.clean]
@[simp] theorem VD (l : List Kp) : X.clean.aR (l.map (aP .sl)) = true:=by induction l <;> simp_all [X.clean.aR,X.clean.bE,X.clean]
def br (a : Kp) : Nat:=bH a.obj
structure oz (x : Kp) : Prop where
  Ft : qO x.obj
  Pk : bI x.at_
  Pv : bI x.seq
theorem KN (a b : Kp) : decide (a = b) = (decide (a.obj = b.obj) && decide (a.at_ = b.at_) && decide (a.seq = b.seq)):=by
  cases a; cases b; simp [Bool.and_assoc]
def bZ (a : Wr) : Nat:=a.text.length
structure oB (x : Wr) : Prop where
  Pk : bI x.at_
  Pw : bS x.text
theorem KS (a b : Wr) : decide (a = b) = (decide (a.at_ = b.at_) && decide (a.text = b.text)):=by
  cases a; cases b; simp [Bool.and_assoc]
def cB (a : dY) : Nat:=wL wS a.cells + wL bZ a.pending
structure yC (x : dY) : Prop where
  Pn : (bL bS) x.cells
  Pu : (bL oB) x.pending
theorem KL (a b : dY) : decide (a = b) = (decide (a.cells = b.cells) && decide (a.pending = b.pending)):=by
  cases a; cases b; simp [Bool.and_assoc]
structure Bn where
  kind : Int
  a : ah
  b : ah
  t : Int
  deriving DecidableEq
@[simp] def aZ (a : Bn) : List X:=[.int .i64 a.kind,.str ⟨(a.a).toArray⟩,.str ⟨(a.b).toArray⟩,.int .i64 a.t]
@[simp] theorem Xi (m : Md) (l : List Bn) : X.bx m (l.map aZ) = l.map aZ:=by induction l <;> simp_all [X.bx,X.cJ,X.md]
@[simp] theorem Vk (l : List Bn) : X.clean.aR (l.map aZ) = true:=by induction l <;> simp_all [X.clean.aR,X.clean.bE,X.clean]
def aN (a : Bn) : Nat:=a.a.length + a.b.length
structure mU (x : Bn) : Prop where
  Fs : bI x.kind
  Fp : bS x.a
  Pm : bS x.b
  AN : bI x.t
theorem KK (a b : Bn) : decide (a = b) = (decide (a.kind = b.kind) && decide (a.a = b.a) && decide (a.b = b.b) && decide (a.t = b.t)):=by
  cases a; cases b; simp [Bool.and_assoc]
structure Sh where
  bt : dY
  ak : List Kp
  aO : List Bn
  next : Int
  seq : Int
  deriving DecidableEq
@[simp] def bn (m : Md) (a : Sh) : List X:=[.row m 1 ((a.bt.cells).map eS),.row m 2 ((a.bt.pending).map eW),.row m 9 ((a.ak).map (aP m)),.row m 4 ((a.aO).map aZ),.int .i64 a.next,.int .i64 a.seq]
@[simp] theorem Xv (m m' : Md) (l : List Sh) : X.bx m (l.map (bn m')) = l.map (bn m):=by induction l <;> simp_all [X.bx,X.cJ,X.md]
@[simp] theorem Vx (l : List Sh) : X.clean.aR (l.map (bn .own)) = true:=by induction l <;> simp_all [X.clean.aR,X.clean.bE,X.clean]
@[simp] theorem VJ (l : List Sh) : X.clean.aR (l.map (bn .sl)) = true:=by induction l <;> simp_all [X.clean.aR,X.clean.bE,X.clean]
def bT (a : Sh) : Nat:=cB a.bt + wL br a.ak + wL aN a.aO
structure qP (x : Sh) : Prop where
  Pp : yC x.bt
  Pt : (bL oz) x.ak
  Fq : (bL mU) x.aO
  WW : bI x.next
  Pv : bI x.seq
theorem KR (a b : Sh) : decide (a = b) = (decide (a.bt = b.bt) && decide (a.ak = b.ak) && decide (a.aO = b.aO) && decide (a.next = b.next) && decide (a.seq = b.seq)):=by
  cases a; cases b; simp [Bool.and_assoc]
structure Fl where
  q : Rq
  who : List Int
  old : Ob
  zP : Bool
  deriving DecidableEq
@[simp] def q7 (m : Md) (a : Fl) : List X:=[.int .i64 a.q.method,.str ⟨(a.q.path).toArray⟩,.row m 2 ((a.q.fields).map aE),.str ⟨(a.q.body).toArray⟩,.row m 1 ((a.who).map eI),.str ⟨(a.old.path).toArray⟩,.row m 1 ((a.old.names).map eS),.row m 1 ((a.old.values).map eS),.int .i64 a.old.resp.status,.row m 2 ((a.old.resp.fields).map aE),.str ⟨(a.old.resp.body).toArray⟩,.int .i64 a.old.t,.bool a.zP]
@[simp] theorem Xl (m m' : Md) (l : List Fl) : X.bx m (l.map (q7 m')) = l.map (q7 m):=by induction l <;> simp_all [X.bx,X.cJ,X.md]
@[simp] theorem Vn (l : List Fl) : X.clean.aR (l.map (q7 .own)) = true:=by induction l <;> simp_all [X.clean.aR,X.clean.bE,X.clean]
@[simp] theorem VC (l : List Fl) : X.clean.aR (l.map (q7 .sl)) = true:=by induction l <;> simp_all [X.clean.aR,X.clean.bE,X.clean]
structure ID (x : Fl) : Prop where
  AM : lJ x.q
  W7 : (bL bI) x.who
  WY : qO x.old
  WT : bB x.zP
structure Se where
  q : Rq
  resp : cM
  t : Int
  deriving DecidableEq
@[simp] def q9 (m : Md) (a : Se) : List X:=[.int .i64 a.q.method,.str ⟨(a.q.path).toArray⟩,.row m 2 ((a.q.fields).map aE),.str ⟨(a.q.body).toArray⟩,.int .i64 a.resp.status,.row m 2 ((a.resp.fields).map aE),.str ⟨(a.resp.body).toArray⟩,.int .i64 a.t]
@[simp] theorem Xu (m m' : Md) (l : List Se) : X.bx m (l.map (q9 m')) = l.map (q9 m):=by induction l <;> simp_all [X.bx,X.cJ,X.md]
@[simp] theorem Vw (l : List Se) : X.clean.aR (l.map (q9 .own)) = true:=by induction l <;> simp_all [X.clean.aR,X.clean.bE,X.clean]
@[simp] theorem VI (l : List Se) : X.clean.aR (l.map (q9 .sl)) = true:=by induction l <;> simp_all [X.clean.aR,X.clean.bE,X.clean]
structure IF (x : Se) : Prop where
  AM : lJ x.q
  wH : oA x.resp
  AN : bI x.t
structure Rp where
  client : Int
  q : Rq
  resp : cM
  kind : Int
  t : Int
  obj : Ob
  aO : Int
  deriving DecidableEq
@[simp] def q8 (m : Md) (a : Rp) : List X:=[.int .i64 a.client,.int .i64 a.q.method,.str ⟨(a.q.path).toArray⟩,.row m 2 ((a.q.fields).map aE),.str ⟨(a.q.body).toArray⟩,.int .i64 a.resp.status,.row m 2 ((a.resp.fields).map aE),.str ⟨(a.resp.body).toArray⟩,.int .i64 a.kind,.int .i64 a.t,.str ⟨(a.obj.path).toArray⟩,.row m 1 ((a.obj.names).map eS),.row m 1 ((a.obj.values).map eS),.int .i64 a.obj.resp.status,.row m 2 ((a.obj.resp.fields).map aE),.str ⟨(a.obj.resp.body).toArray⟩,.int .i64 a.obj.t,.int .i64 a.aO]
@[simp] theorem Xq (m m' : Md) (l : List Rp) : X.bx m (l.map (q8 m')) = l.map (q8 m):=by induction l <;> simp_all [X.bx,X.cJ,X.md]
@[simp] theorem Vs (l : List Rp) : X.clean.aR (l.map (q8 .own)) = true:=by induction l <;> simp_all [X.clean.aR,X.clean.bE,X.clean]
@[simp] theorem VF (l : List Rp) : X.clean.aR (l.map (q8 .sl)) = true:=by induction l <;> simp_all [X.clean.aR,X.clean.bE,X.clean]
structure IE (x : Rp) : Prop where
  Po : bI x.client
  AM : lJ x.q
  wH : oA x.resp
  Fs : bI x.kind
  AN : bI x.t
  Ft : qO x.obj
  Fq : bI x.aO
structure Ca where
  iu : Sh
  rB : List Fl
  now : Int
  seen : List Se
  sent : List Rp
  deriving DecidableEq
@[simp] def uX (m : Md) (a : Ca) : List X:=[.row m 1 ((a.iu.bt.cells).map eS),.row m 2 ((a.iu.bt.pending).map eW),.row m 9 ((a.iu.ak).map (aP m)),.row m 4 ((a.iu.aO).map aZ),.int .i64 a.iu.next,.int .i64 a.iu.seq,.row m 13 ((a.rB).map (q7 m)),.int .i64 a.now,.row m 8 ((a.seen).map (q9 m)),.row m 18 ((a.sent).map (q8 m))]
@[simp] theorem Xj (m m' : Md) (l : List Ca) : X.bx m (l.map (uX m')) = l.map (uX m):=by induction l <;> simp_all [X.bx,X.cJ,X.md]
@[simp] theorem Vl (l : List Ca) : X.clean.aR (l.map (uX .own)) = true:=by induction l <;> simp_all [X.clean.aR,X.clean.bE,X.clean]
@[simp] theorem VA (l : List Ca) : X.clean.aR (l.map (uX .sl)) = true:=by induction l <;> simp_all [X.clean.aR,X.clean.bE,X.clean]
structure UT (x : Ca) : Prop where
  W5 : qP x.iu
  WS : (bL ID) x.rB
  WX : bI x.now
  WZ : (bL IF) x.seen
  W4 : (bL IE) x.sent
structure De where
  kind : Int
  client : Int
  q : Rq
  a : Int
  resp : cM
  lK : Bn
  keep : List Bool
  deriving DecidableEq
@[simp] def uY (m : Md) (a : De) : List X:=[.int .i64 a.kind,.int .i64 a.client,.int .i64 a.q.method,.str ⟨(a.q.path).toArray⟩,.row m 2 ((a.q.fields).map aE),.str ⟨(a.q.body).toArray⟩,.int .i64 a.a,.int .i64 a.resp.status,.row m 2 ((a.resp.fields).map aE),.str ⟨(a.resp.body).toArray⟩,.int .i64 a.lK.kind,.str ⟨(a.lK.a).toArray⟩,.str ⟨(a.lK.b).toArray⟩,.int .i64 a.lK.t,.row m 1 ((a.keep).map eB)]
@[simp] theorem Xk (m m' : Md) (l : List De) : X.bx m (l.map (uY m')) = l.map (uY m):=by induction l <;> simp_all [X.bx,X.cJ,X.md]
@[simp] theorem Vm (l : List De) : X.clean.aR (l.map (uY .own)) = true:=by induction l <;> simp_all [X.clean.aR,X.clean.bE,X.clean]
@[simp] theorem VB (l : List De) : X.clean.aR (l.map (uY .sl)) = true:=by induction l <;> simp_all [X.clean.aR,X.clean.bE,X.clean]
structure UU (x : De) : Prop where
  Fs : bI x.kind
  Po : bI x.client
  AM : lJ x.q
  Fp : bI x.a
  wH : oA x.resp
  WR : mU x.lK
  WU : (bL bB) x.keep
theorem DE {ts : List Ty} {l : List X} (h : cW ([.str,.str] ++ ts) l) : ∃ (a : aH) (l' : List X),l = aE a ++ l'∧lI a∧cW ts l':=by
  simp only [List.cons_append,List.nil_append] at h
  obtain ⟨y1,r1,rfl,c1,h1⟩:=h.cons
  obtain ⟨a1,rfl,b1⟩:=iB c1
  obtain ⟨y2,r2,rfl,c2,h2⟩:=h1.cons
  obtain ⟨a2,rfl,b2⟩:=iB c2
  exact ⟨⟨a1,a2⟩,r2,by simp,⟨b1,b2⟩,h2⟩
theorem KH {ts : List Ty} {l : List X} (h : cW ([.int .i64,.row [.str,.str],.str] ++ ts) l) : ∃ (a : cM) (l' : List X),l = eC .sl a ++ l'∧oA a∧cW ts l':=by
  simp only [List.cons_append,List.nil_append] at h
  obtain ⟨y1,r1,rfl,c1,h1⟩:=h.cons
  obtain ⟨a1,rfl,b1⟩:=jD c1
  obtain ⟨y2,r2,rfl,c2,h2⟩:=h1.cons
  obtain ⟨a2,rfl,b2⟩:=lS aE lI c2 fun r hr=>by
    obtain ⟨a,l',rfl,h1,h2⟩:=DE (ts:=[]) (by simpa using hr)
    obtain rfl:=h2.nil
    exact ⟨a,by simp,h1⟩
  obtain ⟨y3,r3,rfl,c3,h3⟩:=h2.cons
  obtain ⟨a3,rfl,b3⟩:=iB c3
  exact ⟨⟨a1,a2,a3⟩,r3,by simp,⟨b1,b2,b3⟩,h3⟩
def RS : List Ty:=[.int .i64,.str,.row [.str,.str],.str]
theorem KG {ts : List Ty} {l : List X} (h : cW ([.int .i64,.str,.row [.str,.str],.str] ++ ts) l) : ∃ (a : Rq) (l' : List X),l = cF .sl a ++ l'∧lJ a∧cW ts l':=by
  simp only [List.cons_append,List.nil_append] at h
  obtain ⟨y1,r1,rfl,c1,h1⟩:=h.cons
  obtain ⟨a1,rfl,b1⟩:=jD c1
  obtain ⟨y2,r2,rfl,c2,h2⟩:=h1.cons
  obtain ⟨a2,rfl,b2⟩:=iB c2
  obtain ⟨y3,r3,rfl,c3,h3⟩:=h2.cons
  obtain ⟨a3,rfl,b3⟩:=lS aE lI c3 fun r hr=>by
    obtain ⟨a,l',rfl,h1,h2⟩:=DE (ts:=[]) (by simpa using hr)
    obtain rfl:=h2.nil
    exact ⟨a,by simp,h1⟩
  obtain ⟨y4,r4,rfl,c4,h4⟩:=h3.cons
  obtain ⟨a4,rfl,b4⟩:=iB c4
  exact ⟨⟨a1,a2,a3,a4⟩,r4,by simp,⟨b1,b2,b3,b4⟩,h4⟩
theorem VN {x : X} (h : ki (.agg RS) x) : ∃ a,x = .agg (cF .sl a)∧lJ a:=by
  obtain ⟨l,rfl,hl⟩:=DC h
  obtain ⟨a,l',rfl,h1,h2⟩:=KG (ts:=[]) (l:=l) (by rw [List.append_nil]; exact hl)
  obtain rfl:=h2.nil
  exact ⟨a,by simp,h1⟩
theorem KF {ts : List Ty} {l : List X} (h : cW ([.str,.row [.str],.row [.str],.int .i64,.row [.str,.str],.str,.int .i64] ++ ts) l) : ∃ (a : Ob) (l' : List X),l = bw .sl a ++ l'∧qO a∧cW ts l':=by
  simp only [List.cons_append,List.nil_append] at h
  obtain ⟨y1,r1,rfl,c1,h1⟩:=h.cons
  obtain ⟨a1,rfl,b1⟩:=iB c1
  obtain ⟨y2,r2,rfl,c2,h2⟩:=h1.cons
  obtain ⟨a2,rfl,b2⟩:=lS eS bS c2 fun r hr=>by
    obtain ⟨x,r',rfl,h1,h2⟩:=hr.cons
    obtain rfl:=h2.nil
    obtain ⟨s,rfl,hs⟩:=iB h1
    exact ⟨s,rfl,hs⟩
  obtain ⟨y3,r3,rfl,c3,h3⟩:=h2.cons
  obtain ⟨a3,rfl,b3⟩:=lS eS bS c3 fun r hr=>by
    obtain ⟨x,r',rfl,h1,h2⟩:=hr.cons
    obtain rfl:=h2.nil
    obtain ⟨s,rfl,hs⟩:=iB h1
    exact ⟨s,rfl,hs⟩
  obtain ⟨a4,r4,rfl,b4,h4⟩:=KH (ts:=_) h3
  obtain ⟨y5,r5,rfl,c5,h5⟩:=h4.cons
  obtain ⟨a5,rfl,b5⟩:=jD c5
  exact ⟨⟨a1,a2,a3,a4,a5⟩,r5,by simp,⟨b1,b2,b3,b4,b5⟩,h5⟩
theorem KE {ts : List Ty} {l : List X} (h : cW ([.str,.row [.str],.row [.str],.int .i64,.row [.str,.str],.str,.int .i64,.int .i64,.int .i64] ++ ts) l) : ∃ (a : Kp) (l' : List X),l = aP .sl a ++ l'∧oz a∧cW ts l':=by
  simp only [List.cons_append,List.nil_append] at h
  obtain ⟨a1,r1,rfl,b1,h1⟩:=KF (ts:=_) h
  obtain ⟨y2,r2,rfl,c2,h2⟩:=h1.cons
  obtain ⟨a2,rfl,b2⟩:=jD c2
  obtain ⟨y3,r3,rfl,c3,h3⟩:=h2.cons
  obtain ⟨a3,rfl,b3⟩:=jD c3
  exact ⟨⟨a1,a2,a3⟩,r3,by simp,⟨b1,b2,b3⟩,h3⟩
theorem KJ {ts : List Ty} {l : List X} (h : cW ([.int .i64,.str] ++ ts) l) : ∃ (a : Wr) (l' : List X),l = eW a ++ l'∧oB a∧cW ts l':=by
  simp only [List.cons_append,List.nil_append] at h
  obtain ⟨y1,r1,rfl,c1,h1⟩:=h.cons
  obtain ⟨a1,rfl,b1⟩:=jD c1
  obtain ⟨y2,r2,rfl,c2,h2⟩:=h1.cons
  obtain ⟨a2,rfl,b2⟩:=iB c2
  exact ⟨⟨a1,a2⟩,r2,by simp,⟨b1,b2⟩,h2⟩
theorem KD {ts : List Ty} {l : List X} (h : cW ([.row [.str],.row [.int .i64,.str]] ++ ts) l) : ∃ (a : dY) (l' : List X),l = fH .sl a ++ l'∧yC a∧cW ts l':=by
  simp only [List.cons_append,List.nil_append] at h
  obtain ⟨y1,r1,rfl,c1,h1⟩:=h.cons
  obtain ⟨a1,rfl,b1⟩:=lS eS bS c1 fun r hr=>by
    obtain ⟨x,r',rfl,h1,h2⟩:=hr.cons
    obtain rfl:=h2.nil
    obtain ⟨s,rfl,hs⟩:=iB h1
    exact ⟨s,rfl,hs⟩
  obtain ⟨y2,r2,rfl,c2,h2⟩:=h1.cons
  obtain ⟨a2,rfl,b2⟩:=lS eW oB c2 fun r hr=>by
    obtain ⟨a,l',rfl,h1,h2⟩:=KJ (ts:=[]) (by simpa using hr)
    obtain rfl:=h2.nil
    exact ⟨a,by simp,h1⟩
  exact ⟨⟨a1,a2⟩,r2,by simp,⟨b1,b2⟩,h2⟩
theorem KC {ts : List Ty} {l : List X} (h : cW ([.int .i64,.str,.str,.int .i64] ++ ts) l) : ∃ (a : Bn) (l' : List X),l = aZ a ++ l'∧mU a∧cW ts l':=by
  simp only [List.cons_append,List.nil_append] at h
  obtain ⟨y1,r1,rfl,c1,h1⟩:=h.cons
  obtain ⟨a1,rfl,b1⟩:=jD c1
  obtain ⟨y2,r2,rfl,c2,h2⟩:=h1.cons
  obtain ⟨a2,rfl,b2⟩:=iB c2
  obtain ⟨y3,r3,rfl,c3,h3⟩:=h2.cons
  obtain ⟨a3,rfl,b3⟩:=iB c3
  obtain ⟨y4,r4,rfl,c4,h4⟩:=h3.cons
  obtain ⟨a4,rfl,b4⟩:=jD c4
  exact ⟨⟨a1,a2,a3,a4⟩,r4,by simp,⟨b1,b2,b3,b4⟩,h4⟩
def RT : List Ty:=[.row [.str],.row [.int .i64,.str],.row [.str,.row [.str],.row [.str],.int .i64,.row [.str,.str],.str,.int .i64,.int .i64,.int .i64],.row [.int .i64,.str,.str,.int .i64],.int .i64,.int .i64]
theorem KI {ts : List Ty} {l : List X} (h : cW ([.row [.str],.row [.int .i64,.str],.row [.str,.row [.str],.row [.str],.int .i64,.row [.str,.str],.str,.int .i64,.int .i64,.int .i64],.row [.int .i64,.str,.str,.int .i64],.int .i64,.int .i64] ++ ts) l) : ∃ (a : Sh) (l' : List X),l = bn .sl a ++ l'∧qP a∧cW ts l':=by
  simp only [List.cons_append,List.nil_append] at h
  obtain ⟨a1,r1,rfl,b1,h1⟩:=KD (ts:=_) h
  obtain ⟨y2,r2,rfl,c2,h2⟩:=h1.cons
  obtain ⟨a2,rfl,b2⟩:=lS (aP .sl) oz c2 fun r hr=>by
    obtain ⟨a,l',rfl,h1,h2⟩:=KE (ts:=[]) (by simpa using hr)
    obtain rfl:=h2.nil
    exact ⟨a,by simp,h1⟩
  obtain ⟨y3,r3,rfl,c3,h3⟩:=h2.cons
  obtain ⟨a3,rfl,b3⟩:=lS aZ mU c3 fun r hr=>by
    obtain ⟨a,l',rfl,h1,h2⟩:=KC (ts:=[]) (by simpa using hr)
    obtain rfl:=h2.nil
    exact ⟨a,by simp,h1⟩
  obtain ⟨y4,r4,rfl,c4,h4⟩:=h3.cons
  obtain ⟨a4,rfl,b4⟩:=jD c4
  obtain ⟨y5,r5,rfl,c5,h5⟩:=h4.cons
  obtain ⟨a5,rfl,b5⟩:=jD c5
  exact ⟨⟨a1,a2,a3,a4,a5⟩,r5,by simp,⟨b1,b2,b3,b4,b5⟩,h5⟩
theorem VO {x : X} (h : ki (.agg RT) x) : ∃ a,x = .agg (bn .sl a)∧qP a:=by
  obtain ⟨l,rfl,hl⟩:=DC h
  obtain ⟨a,l',rfl,h1,h2⟩:=KI (ts:=[]) (l:=l) (by rw [List.append_nil]; exact hl)
  obtain rfl:=h2.nil
  exact ⟨a,by simp,h1⟩
end M
set_option linter.unusedVariables false
set_option linter.unusedSimpArgs false
namespace M
open Go
def cG {β : Type} (p : β→Bool) : Nat→List β→Option (Nat×β)
  | _,[]=>none
  | i,b :: l=>if p b = true then some (i,b) else cG p (i + 1) l
theorem ry {β : Type} {p : β→Bool} : ∀ {l : List β} {k i : Nat} {b : β},cG p k l = some (i,b)→k≤i∧l[i - k]? = some b∧p b = true
  | b' :: l,k,i,b,h=>by
    unfold cG at h
    split at h
    · rename_i hp
      cases h
      exact ⟨Nat.le_refl _,by simp,hp⟩
    · obtain ⟨h1,h2,h3⟩:=ry h
      refine ⟨by omega,?_,h3⟩
      rw [show i - k = (i - (k + 1)) + 1 by omega,List.getElem?_cons_succ]
      exact h2
theorem Ek {β : Type} {p : β→Bool} : ∀ {l : List β} {k : Nat},cG p k l = none↔∀ b∈l,¬ p b = true
  | [],k=>by simp [cG]
  | b' :: l,k=>by
    unfold cG
    by_cases hp : p b' = true
    · simp [hp]
    · rw [if_neg hp,Ek]
      simp [hp]
theorem pW {xt : Nat} {β : Type} {f : ag→bG} (l : List β) (st : Nat→ag) (p : β→Bool) (R : Nat→β→ag) (E : ag)
    (h : ∀ i b,l[i]? = some b→i < l.length→f (st i) = if p b = true then some (.ret,R i b) else some (.normal,st (i + 1)))
    (hend : f (st l.length) = some (.exit xt,E)) :
    aK f (st 0) = (cG p 0 l).elim (some (.exit xt,E)) fun x=>some (.ret,R x.1 x.2):=by
  suffices H : ∀ (r : List β) (i : Nat),l.drop i = r→i≤l.length→aK f (st i) = (cG p i r).elim (some (.exit xt,E)) fun x=>some (.ret,R x.1 x.2) from H l 0 rfl (Nat.zero_le _)
  intro r
  induction r with
  | nil =>
    intro i hr hi
    have : i = l.length:=by
      have:=congrArg List.length hr
      simp at this
      omega
    subst this
    rw [gG,hend]
    rfl
  | cons b r ih =>
    intro i hr hi
    have hb : l[i]? = some b:=by
      have:=congrArg (fun t : List β=>t[0]?) hr
      simpa using this
    have hlt : i < l.length:=(List.getElem?_eq_some_iff.1 hb).1
    have hd : l.drop (i + 1) = r:=by
      have:=congrArg List.tail hr
      simpa using this
    rw [gG,h i b hb hlt]
    unfold cG
    by_cases hp : p b = true
    · simp [hp,lv]
    · simp only [hp]
      exact ih (i + 1) hd hlt
theorem tg {xt : Nat} {β γ : Type} {f : ag→bG} (l : List β) (φ : β→List γ) (st : Nat→List γ→ag) (E : List γ→ag)
    (h : ∀ i b out,l[i]? = some b→i < l.length→out = (l.take i).flatMap φ→f (st i out) = some (.normal,st (i + 1) (out ++ φ b)))
    (hend : ∀ out,out = l.flatMap φ→f (st l.length out) = some (.exit xt,E out)) :
    aK f (st 0 []) = some (.exit xt,E (l.flatMap φ)):=by
  suffices H : ∀ (k i : Nat),i + k = l.length→aK f (st i ((l.take i).flatMap φ)) = some (.exit xt,E (l.flatMap φ)) from H l.length 0 (by omega)
  intro k
  induction k with
  | zero =>
    intro i hi
    obtain rfl : i = l.length:=by omega
    rw [List.take_length,gG,hend _ rfl]
    rfl
  | succ k ih =>
    intro i hi
    have hlt : i < l.length:=by omega
    rw [gG,h i l[i] _ (List.getElem?_eq_getElem hlt) hlt rfl]
    have : (l.take i).flatMap φ ++ φ l[i] = (l.take (i + 1)).flatMap φ:=by
      rw [List.take_succ_eq_append_getElem hlt,List.flatMap_append]
      simp
    simp only [this]
    exact ih (i + 1) (by omega)
theorem rz {β γ : Type} (g : β→γ) (l : List β) : l.flatMap (fun b=>[g b]) = l.map g:=by induction l <;> simp_all
theorem vn {β γ : Type} (g : β→γ) (l : List β) (i : Nat) (h : i≤l.length) : ((l.take i).flatMap (fun b=>[g b])).length = i:=by rw [rz]; simp; omega
end M
set_option linter.unusedVariables false
set_option linter.unusedSimpArgs false
namespace M
open Go
def jo (b : UInt8) : UInt8:=if 65≤b.toNat∧b.toNat≤90 then b + 32 else b
def ck (s : ah) : ah:=s.map jo
def oo (b : UInt8) : Bool:=decide ((97≤b.toNat∧b.toNat≤122)∨(48≤b.toNat∧b.toNat≤57)∨b.toNat = 45)
def eM (s : ah) : Bool:=aW oo s && decide (1≤(s.length : Int)∧(s.length : Int)≤20)
def gq (lo : Nat) (b : UInt8) : Bool:=decide (lo≤b.toNat∧b.toNat≤126)
def dK (s : ah) : ah:=Lib.trimB s 32
def gJ (s : ah) : Bool:=aW (gq 32) s && decide (1≤(s.length : Int)∧(s.length : Int)≤60) && decide (dK s = s)
def iM (s : ah) : Bool:=aW (gq 33) s && decide (1≤(s.length : Int)∧(s.length : Int)≤60) && decide (s[0]?.map (fun b : UInt8=>(b.toNat : Int)) = some 47)
theorem ze {α : Type} (p : α→Bool) : ∀ (a b : List α),(∃ x∈a,p x = false)→(a ++ b).dropWhile p = a.dropWhile p ++ b
  | [],b,h=>by simp at h
  | x :: a,b,h=>by
    simp only [List.cons_append,List.dropWhile_cons]
    by_cases hx : p x = true
    · simp only [hx,if_true]
      refine ze p a b ?_
      obtain ⟨y,hy,hp⟩:=h
      rcases List.mem_cons.1 hy with rfl | hy
      · rw [hx] at hp; cases hp
      · exact ⟨y,hy,hp⟩
    · simp [hx]
theorem zc {α : Type} (p : α→Bool) : ∀ (a : List α),(∀ x∈a,p x = true)→a.dropWhile p = []
  | [],_=>rfl
  | x :: a,h=>by
    rw [List.dropWhile_cons,if_pos (h x (List.mem_cons_self ..))]
    exact zc p a fun y hy=>h y (List.mem_cons_of_mem _ hy)
theorem zf {α : Type} (p : α→Bool) : ∀ {a : List α} {x : α},x∈a→p x = false→x∈a.dropWhile p
  | y :: a,x,h,hp=>by
    rw [List.dropWhile_cons]
    by_cases hy : p y = true
    · rw [if_pos hy]
      rcases List.mem_cons.1 h with rfl | h
      · rw [hy] at hp; cases hp
      · exact zf p h hp
    · rw [if_neg hy]; exact h
theorem DJ {α : Type} (p : α→Bool) (l : List α) : ∃ a,l = a ++ l.dropWhile p∧∀ x∈a,p x = true:=by
  refine ⟨l.takeWhile p,(List.takeWhile_append_dropWhile).symm,fun x hx=>?_⟩
  have:=List.all_takeWhile (l:=l) (p:=p)
  exact List.all_eq_true.1 this x hx
theorem Uo (p : UInt8→Bool) (l : List UInt8) : (l.reverse.dropWhile p).reverse.dropWhile p = ((l.dropWhile p).reverse.dropWhile p).reverse:=by
  by_cases h : ∃ x∈l,p x = false
  · obtain ⟨x,hx,hp⟩:=h
    obtain ⟨a,e1,h1⟩:=DJ p l
    have hm : x∈l.dropWhile p:=zf p hx hp
    have e2 : l.reverse.dropWhile p = (l.dropWhile p).reverse.dropWhile p ++ a.reverse:=by
      conv=>lhs; rw [e1,List.reverse_append]
      exact ze p _ _ ⟨x,by simpa using hm,hp⟩
    rw [e2,List.reverse_append,List.reverse_reverse]
    obtain ⟨b,e3,h3⟩:=DJ p (l.dropWhile p).reverse
    generalize hd : (l.dropWhile p).reverse.dropWhile p = d at e3 ⊢
    have Oi : ∃ y∈d,p y = false:=⟨x,by rw [← hd]; exact zf p (by simpa using hm) hp,hp⟩
    have e4 : l.dropWhile p = d.reverse ++ b.reverse:=by
      have:=congrArg List.reverse e3
      simpa using this
    have e5 : (a ++ d.reverse).dropWhile p = d.reverse.dropWhile p:=by
      clear e1 e2 e3 hm
      induction a with
      | nil=>rfl
      | cons y a ih =>
        rw [List.cons_append,List.dropWhile_cons,if_pos (h1 y (List.mem_cons_self ..))]
        exact ih fun z hz=>h1 z (List.mem_cons_of_mem _ hz)
    rw [e5]
    have e6 : (l.dropWhile p).dropWhile p = l.dropWhile p:=by
      have : ∀ l : List UInt8,(l.dropWhile p).dropWhile p = l.dropWhile p:=by
        intro l
        induction l with
        | nil=>rfl
        | cons y l ih =>
          rw [List.dropWhile_cons]
          by_cases hy : p y = true
          · rw [if_pos hy]; exact ih
          · rw [if_neg hy,List.dropWhile_cons,if_neg hy]
      exact this l
    rw [e4] at e6
    rw [ze p d.reverse b.reverse (by obtain ⟨y,hy,hp⟩:=Oi; exact ⟨y,by simpa using hy,hp⟩)] at e6
    exact List.append_cancel_right e6
  · have h1 : ∀ x∈l,p x = true:=fun x hx=>by
      cases hp : p x with
      | true=>rfl
      | false=>exact absurd ⟨x,hx,hp⟩ h
    rw [zc p l h1,zc p l.reverse (fun x hx=>h1 x (by simpa using hx))]
    rfl
theorem Un (s : ah) : dK s = Lib.trimRightB (Lib.trimLeftB s 32) 32:=Uo _ s
theorem GH (s : ah) : (dK s).length≤s.length:=by
  unfold dK Lib.trimB Lib.trimLeftB Lib.trimRightB
  have h1:=(List.dropWhile_sublist (l:=(List.dropWhile (fun x=>x == 32) s.reverse).reverse) (fun x=>x == (32 : UInt8))).length_le
  have h2:=(List.dropWhile_sublist (l:=s.reverse) (fun x=>x == (32 : UInt8))).length_le
  simp only [List.length_reverse] at h1 h2
  omega
def cu (c : UInt8) : ah→List ah
  | []=>[[]]
  | b :: s=>if b = c then [] :: cu c s else match cu c s with
    | w :: ws=>(b :: w) :: ws
    | []=>[[b]]
theorem Gs (c : UInt8) (s : ah) : cu c s≠[]:=by
  cases s with
  | nil=>simp [cu]
  | cons b s =>
    unfold cu
    split
    · simp
    · split <;> simp
def gL (s : ah) : List ah:=((cu 44 s).map dK).filter fun w=>decide (w≠[])
end M
set_option linter.unusedVariables false
set_option linter.unusedSimpArgs false
namespace M
open Go Go.RowKit
def iU (w w' : World) (c : C) : Prop:=(∀ Z,c.ok w' Z)∧c.bare∧∀ b k,c.fp b k→w.heap.size≤b
theorem Im [Bs] {P : Program} {f : FuncId} {xs : List X} {r : X}
    (h : ∀ w zl zb cs,cs.map C.er = xs→iT w zl zb cs→qH w→Calls P f (cs.map C.val).toArray w fun e w'=>∃ c : C,e = .returned c.val∧c.er = r∧Below w.heap.size w w'∧iU w w' c) :
    AC P f xs fun r' ps=>r' = r∧ps = xs.map fun _=>.dead:=by
  intro w zl zb cs e hA gB
  refine (h w zl zb cs e hA fun b hb=>(gB b hb).1).mono fun e' w' ⟨c,he,hc,hb,c1,c2,c3⟩=>?_
  have zT : Ext (fun b k=>∃ x∈cs,x.fp b k) w w':=⟨hb.os,hb.tape,hb.output,hb.size,fun b hl=>.inl (hb.block b hl)⟩
  refine ⟨c,cs.map fun x=>.dead x.val,zl,⟨he,by rw [List.map_map]; rfl,zT,⟨fun x hx'=>?_,fun x hx'=>?_,fun x hx' b k hf=>?_,fun b k hz=>Nat.lt_of_lt_of_le (hA.bD b k (hz.imp id fun h=>h.elim)) hb.size,?_⟩,fun x hx' b k hf=>?_,fun _ _ h=>h,fun _ _ h=>.inl h⟩,hc,?_⟩
  · rcases List.mem_cons.1 hx' with rfl | hx'
    · exact c1 _
    · obtain ⟨y,_,rfl⟩:=List.mem_map.1 hx'; trivial
  · rcases List.mem_cons.1 hx' with rfl | hx'
    · exact c2
    · obtain ⟨y,_,rfl⟩:=List.mem_map.1 hx'; trivial
  · rcases List.mem_cons.1 hx' with rfl | hx'
    · have h1:=c3 b k hf
      exact ⟨fun hz=>by have:=hA.bD b k (.inl hz); omega,fun hz=>hz⟩
    · obtain ⟨y,_,rfl⟩:=List.mem_map.1 hx'; exact hf.elim
  · refine List.pairwise_cons.2 ⟨fun x hx b k hf hf'=>?_,?_⟩
    · obtain ⟨y,_,rfl⟩:=List.mem_map.1 hx; exact hf'
    · refine List.pairwise_iff_getElem.2 fun i j hi hj _ b k hf=>?_
      obtain ⟨y,_,hy⟩:=List.mem_map.1 (List.getElem_mem hi)
      rw [← hy] at hf
      exact hf.elim
  · rcases List.mem_cons.1 hx' with rfl | hx'
    · exact .inr (c3 b k hf)
    · obtain ⟨y,_,rfl⟩:=List.mem_map.1 hx'; exact hf.elim
  · rw [← e]
    simp [List.map_map,Function.comp_def,C.er]
def eL (f0 : FuncId) (g : List X→Option X) : bz:=fun f xs=>if f = f0 then (match g xs with
  | some r=>some (r,xs.map fun _=>.dead)
  | none=>none) else none
theorem BM [Bs] {P : Program} {f0 : FuncId} {g : List X→Option X}
    (h : ∀ xs r,g xs = some r→∀ w zl zb cs,cs.map C.er = xs→iT w zl zb cs→qH w→Calls P f0 (cs.map C.val).toArray w fun e w'=>∃ c : C,e = .returned c.val∧c.er = r∧Below w.heap.size w w'∧iU w w' c) : (eL f0 g).Sound P:=fun f xs o e=>by
  unfold eL at e
  split at e
  · rename_i hf
    subst hf
    split at e
    · rename_i r hr
      cases e
      exact Im (h xs r hr)
    · cases e
  · cases e
theorem ja {c : C} {s : ByteArray} (h : c.er = .str s) : c = .str s:=by cases c <;> simp [C.er] at h; rw [h]
theorem kC {c : C} {k : IntKind} {n : Int} (h : c.er = .int k n) : c = .int k n:=by cases c <;> simp [C.er] at h; rw [h.1,h.2]
theorem D0 {c : C} {b : Bool} (h : c.er = .bool b) : c = .bool b:=by cases c <;> simp [C.er] at h; rw [h]
theorem map_nil {l : List C} (h : l.map C.er = []) : l = []:=by simpa using h
theorem map_cons {l : List C} {x : X} {xs : List X} (h : l.map C.er = x :: xs) : ∃ c cs,l = c :: cs∧c.er = x∧cs.map C.er = xs:=by
  cases l with
  | nil=>simp at h
  | cons c cs=>simp at h; exact ⟨c,cs,rfl,h.1,h.2⟩
theorem NI {w w' : World} {s : ByteArray} (h : s.size≤9223372036854775807) : iU w w' (.str s):=⟨fun _=>h,trivial,fun _ _ h=>h.elim⟩
theorem NG {w w' : World} {b : Bool} : iU w w' (.bool b):=⟨fun _=>trivial,trivial,fun _ _ h=>h.elim⟩
def ot (l : List C) : C:=.au l.length fun j=>l.getD j (.dead undef)
theorem Rb {α β : Type} (l : List α) (d : α) (g : α→β) : ((List.range l.length).map fun j=>g (l.getD j d)) = l.map g:=by
  apply List.ext_getElem
  · simp
  · intro i h1 h2
    simp at h1
    simp [h1]
theorem NH {w w' : World} {g : Nat} {t : TypeId} {l : List ByteArray} (hg : w.heap.size≤g) (hb : w'.heap[g]? = some (.cells (l.map Value.string).toArray t (0,0))) (hs : ∀ s∈l,s.size≤9223372036854775807) :
    iU w w' (.row .own 1 (some (g,0,none)) l.length l.length fun i _=>.str (l.getD i ByteArray.empty)):=by
  have hm : ∀ j,j < l.length→l.getD j ByteArray.empty∈l:=fun j hj=>by simp [List.getD,hj]
  refine ⟨fun Z=>⟨Nat.le_refl _,fun i j hi hj=>⟨g,0,rfl,?_,fun h=>absurd rfl h⟩,fun i j hi hj=>⟨trivial,trivial,trivial,hs _ (hm i hi)⟩,fun _=>.inr ⟨g,0,_,t,(0,0),rfl,hb,?_,fun k _ _=>?_⟩,fun i j hi hj b k hf=>hf.elim⟩,trivial,fun b k hf=>?_⟩
  · obtain rfl : j = 0:=by omega
    simp only [World.cell?,hb]
    simp [C.val,hi,Go.Value.oneCell']
  · simp
  · simp [World.frozen?,hb]
  · obtain ⟨_,h | ⟨i,j,_,_,h⟩⟩:=hf
    · obtain ⟨o,h⟩:=h
      have hgb:=congrArg Prod.fst (Option.some.inj h)
      have hgb : g = b:=hgb; exact hgb ▸ hg
    · exact h.elim
theorem Rm (l : List ByteArray) (g cap : Nat) : (C.row .own 1 (some (g,0,none)) l.length cap fun i _=>.str (l.getD i ByteArray.empty)).er = .row .own 1 (l.map fun s=>[.str s]):=by
  show X.row _ _ _ = _
  congr 1
  have:=Rb l ByteArray.empty fun s=>[X.str s]
  rw [← this]
  rfl
theorem rj {c : C} {m : Md} {z : Nat} {xs : List (List X)} (h : c.er = .row m z xs) : ∃ A len cap e,c = .row m z A len cap e∧len = xs.length∧∀ i,i < len→xs[i]? = some ((List.range z).map fun j=>(e i j).er):=by
  cases c with
  | row m' z' A len cap e =>
    simp only [C.er,X.row.injEq] at h
    obtain ⟨rfl,rfl,h⟩:=h
    refine ⟨A,len,cap,e,rfl,by rw [← h]; simp,fun i hi=>?_⟩
    rw [← h]
    simp [hi]
  | _=>simp [C.er] at h
end M
set_option linter.unusedVariables false
set_option linter.unusedSimpArgs false
namespace M
open Go
def Gw (s : ah) : X:=.str ⟨s.toArray⟩
def B2 (l : List ah) : X:=.row .own 1 (l.map eS)
def yh : List X→Option X
  | [.str s,.str c]=>if c.data.toList = [32]∧s.size≤9223372036854775807 then some (Gw (dK s.data.toList)) else none
  | _=>none
def x9 : List X→Option X
  | [.str s,.str c]=>if s.size < 4294967281∧1≤c.size then some (B2 (Lib.split s.data.toList c.data.toList)) else none
  | _=>none
def vC : List X→Option X
  | [.str s,.str c]=>some (.bool (Lib.hasPrefix s.data.toList c.data.toList))
  | _=>none
theorem count_nil (c : UInt8) : Lib.count [] [c] = 0:=by rw [Lib.count_one]; rfl
theorem RJ (c : UInt8) : ∀ s : ah,Lib.split s [c] = cu c s:=by
  have key : ∀ (n : Nat) (s : ah),s.length≤n→Lib.splitK [c] 0 (Lib.count s [c]) s = cu c s:=by
    intro n
    induction n with
    | zero =>
      intro s hs
      obtain rfl : s = []:=List.length_eq_zero_iff.1 (by omega)
      rw [count_nil]
      rfl
    | succ n ih =>
      intro s hs
      cases s with
      | nil=>rw [count_nil]; rfl
      | cons b s =>
        simp at hs
        have wE:=ih s (by omega)
        by_cases hb : b = c
        · subst hb
          rw [Lib.count_cons_eq,Nat.add_comm]
          have hi : Lib.index (b :: s) [b] = 0:=Lib.index_first (i:=0) (Nat.zero_le _) (by simp [Lib.occAt]) (fun _ h=>absurd h (Nat.not_lt_zero _))
          simp only [Lib.splitK,hi,cu]
          simp [wE]
        · rw [Lib.count_cons_ne _ _ _ hb]
          have hnext : Lib.index (b :: s) [c] = if Lib.index s [c] = -1 then -1 else Lib.index s [c] + 1:=by
            have h:=Lib.index_drop (s:=b :: s) (sub:=[c]) (i:=1) (fun j hj=>by
              obtain rfl : j = 0:=by omega
              simp [Lib.occAt,List.isPrefixOf,Ne.symm hb]) (by simp)
            simp at h
            exact h
          rw [cu,if_neg hb,← wE]
          cases hk : Lib.count s [c] with
          | zero=>simp [Lib.splitK]
          | succ k =>
            simp only [Lib.splitK,hnext]
            by_cases h1 : Lib.index s [c] = -1
            · simp [h1]
            · have h0 : 0≤Lib.index s [c]:=by
                have : -1≤Lib.index s [c]:=Lib.index_ge _ _
                omega
              have h2 : ¬ Lib.index s [c] + 1 = -1:=by omega
              have h3 : (Lib.index s [c] + 1).toNat = (Lib.index s [c]).toNat + 1:=by omega
              simp [h1,h2,h3]
  intro s
  exact key s.length s (Nat.le_refl _)
end M
set_option linter.unusedVariables false
set_option linter.unusedSimpArgs false
namespace M
open Go
def cL {β : Type} (p : β→Bool) (l : List β) : Nat:=(l.takeWhile fun b=>!p b).length
theorem FB {β : Type} {f : ag→bG} (l : List β) (st : Nat→ag) (p : β→Bool) (E : Nat→ag) {x : Nat}
    (h : ∀ i b,l[i]? = some b→i < l.length→f (st i) = if p b = true then some (.exit x,E i) else some (.normal,st (i + 1)))
    (hend : f (st l.length) = some (.exit x,E l.length)) : aK f (st 0) = some (.exit x,E (cL p l)):=by
  suffices H : ∀ (r : List β) (i : Nat),l.drop i = r→i≤l.length→aK f (st i) = some (.exit x,E (i + cL p r)) by
    have:=H l 0 rfl (Nat.zero_le _)
    rwa [Nat.zero_add] at this
  intro r
  induction r with
  | nil =>
    intro i hr hi
    have : i = l.length:=by
      have:=congrArg List.length hr
      simp at this
      omega
    subst this
    rw [gG,hend]
    rfl
  | cons b r ih =>
    intro i hr hi
    have hb : l[i]? = some b:=by
      have:=congrArg (fun t : List β=>t[0]?) hr
      simpa using this
    have hlt : i < l.length:=(List.getElem?_eq_some_iff.1 hb).1
    have hd : l.drop (i + 1) = r:=by
      have:=congrArg List.tail hr
      simpa using this
    rw [gG,h i b hb hlt]
    unfold cL
    by_cases hp : p b = true
    · simp [hp,dn]
    · have:=ih (i + 1) hd hlt
      simp only [hp]
      have e : i + 1 + cL p r = i + (cL p r + 1):=by omega
      rw [e] at this
      simp [hp,dn,this,cL]
theorem ym {β : Type} (p : β→Bool) (l : List β) : cL p l≤l.length:=by
  unfold cL
  exact (List.takeWhile_sublist _).length_le
theorem GM {β : Type} (p : β→Bool) : ∀ (l : List β) (j : Nat) (b : β),j < cL p l→l[j]? = some b→p b = false
  | [],j,b,h,_=>by simp [cL] at h
  | a :: l,j,b,h,hb=>by
    unfold cL at h
    rw [List.takeWhile_cons] at h
    by_cases hp : p a = true
    · simp [hp] at h
    · simp only [hp,Bool.not_false,if_true,List.length_cons] at h
      cases j with
      | zero=>simp at hb; subst hb; simpa using hp
      | succ j=>exact GM p l j b (by unfold cL; omega) (by simpa using hb)
theorem GL {β : Type} (p : β→Bool) : ∀ (l : List β) (b : β),l[cL p l]? = some b→p b = true
  | [],b,h=>by simp at h
  | a :: l,b,h=>by
    unfold cL at h
    rw [List.takeWhile_cons] at h
    by_cases hp : p a = true
    · simp [hp] at h; subst h; exact hp
    · simp only [hp,Bool.not_false,if_true,List.length_cons,List.getElem?_cons_succ] at h
      exact GL p l b h
def fK (c : UInt8) (f : ah→List ah) (s : ah) (i : Nat) (g : List ah×Nat) (b : Option UInt8) : List ah×Nat:=match b with
  | some b=>if b = c then (g.1 ++ f ((s.take i).drop g.2),i + 1) else g
  | none=>(g.1 ++ f ((s.take i).drop g.2),i + 1)
theorem Cp (c : UInt8) : ∀ (cur rest : ah),(∀ b∈cur,b≠c)→cu c (cur ++ rest) = match cu c rest with
    | w :: ws=>(cur ++ w) :: ws
    | []=>[cur]
  | [],rest,_=>by
    cases h : cu c rest with
    | nil=>exact absurd h (Gs c rest)
    | cons w ws=>simpa using h
  | a :: cur,rest,h=>by
    rw [List.cons_append,cu,if_neg (h a (List.mem_cons_self ..)),Cp c cur rest fun b hb=>h b (List.mem_cons_of_mem _ hb)]
    cases cu c rest <;> simp
theorem RH (c : UInt8) (cur : ah) (h : ∀ b∈cur,b≠c) : cu c cur = [cur]:=by
  have:=Cp c cur [] h
  simpa [cu] using this
theorem Cu : ∀ (p cur rest : ah),((p ++ (cur ++ rest)).take (p.length + cur.length)).drop p.length = cur
  | [],cur,rest=>by simp
  | a :: p,cur,rest=>by
    have:=Cu p cur rest
    simp only [List.length_cons,List.cons_append,show p.length + 1 + cur.length = p.length + cur.length + 1 by omega,List.take_succ_cons,List.drop_succ_cons]
    exact this
theorem NF (c : UInt8) (f : ah→List ah) (s : ah) : foldI (fK c f s) 0 (s.map some ++ [none]) ([],0) = ((cu c s).flatMap f,s.length + 1):=by
  suffices H : ∀ (rest p cur : ah) (out : List ah),s = p ++ cur ++ rest→(∀ b∈cur,b≠c)→foldI (fK c f s) (p.length + cur.length) (rest.map some ++ [none]) (out,p.length) = (out ++ (cu c (cur ++ rest)).flatMap f,s.length + 1) by
    have:=H s [] [] [] rfl (by simp)
    simpa using this
  intro rest
  induction rest with
  | nil =>
    intro p cur out hs hc
    simp only [List.append_nil] at hs ⊢
    rw [RH c cur hc]
    subst hs
    have e1:=Cu p cur []
    rw [List.append_nil] at e1
    simp [foldI,fK,e1]
  | cons b rest ih =>
    intro p cur out hs hc
    simp only [List.map_cons,List.cons_append,foldI]
    by_cases hb : b = c
    · subst hb
      have e1 : (s.take (p.length + cur.length)).drop p.length = cur:=by subst hs; have:=Cu p cur (b :: rest); rwa [← List.append_assoc] at this
      have:=ih (p ++ cur ++ [b]) [] (out ++ f cur) (by simp [hs]) (by simp)
      simp only [List.length_append,List.length_cons,List.length_nil,List.nil_append] at this
      simp only [fK,if_true,e1]
      rw [show p.length + cur.length + 1 = p.length + cur.length + (0 + 1) + 0 by omega,this,Cp b cur (b :: rest) hc]
      simp [cu]
    · have:=ih p (cur ++ [b]) out (by simp [hs]) (by
        intro x hx
        rcases List.mem_append.1 hx with hx | hx
        · exact hc x hx
        · rw [List.mem_singleton.1 hx]; exact hb)
      simp only [List.length_append,List.length_cons,List.length_nil] at this
      simp only [fK,hb,if_false]
      rw [show p.length + cur.length + 1 = p.length + (cur.length + (0 + 1)) by omega,this]
      simp
theorem GQ (s : ah) : gL s = (cu 44 s).flatMap fun w=>if dK w≠[] then [dK w] else []:=by
  unfold gL
  induction cu 44 s with
  | nil=>rfl
  | cons w l ih =>
    simp only [List.map_cons,List.filter_cons,List.flatMap_cons,← ih]
    by_cases h : dK w = [] <;> simp [h]
@[simp] theorem We (l : List UInt8) : l.map (fun b : UInt8=>[X.int IntKind.u8 (b.toNat : Int)]) = l.map eU:=rfl
@[simp] theorem Yj (l : List UInt8) : mL (l.map eU) = some l:=GK l
theorem Ct (c : UInt8) : ∀ s : ah,((cu c s).map List.length).sum + (cu c s).length = s.length + 1
  | []=>rfl
  | b :: s=>by
    have:=Ct c s
    unfold cu
    split
    · simp; omega
    · cases h : cu c s with
      | nil=>exact absurd h (Gs c s)
      | cons w ws=>rw [h] at this; simp at this ⊢; omega
theorem Gq (c : UInt8) (s : ah) : (cu c s).length≤s.length + 1:=by have:=Ct c s; omega
theorem Gr (c : UInt8) (s : ah) : ∀ w∈cu c s,w.length≤s.length:=by
  intro w hw
  have h:=Ct c s
  have h1 : w.length + 1≤((cu c s).map List.length).sum + (cu c s).length:=by
    clear h
    revert hw
    generalize cu c s = l
    intro hw
    induction l with
    | nil=>cases hw
    | cons x l ih =>
      rcases List.mem_cons.1 hw with rfl | hw
      · simp; omega
      · have:=ih hw; simp; omega
  omega
theorem FC (b : UInt8) (h : 65≤b.toNat∧b.toNat≤90) : (b + 32).toNat = b.toNat + 32:=by
  rw [UInt8.toNat_add]
  have : (32 : UInt8).toNat = 32:=rfl
  omega
theorem GV {n : Int} (h1 : 0≤n) (h2 : n < 256) : IntKind.u8.wrap n = n:=GW h1 h2
end M
namespace M
theorem Lu {β γ : Type} (φ : β→List γ) (hφ : ∀ b,(φ b).length≤1) (l : List β) (i : Nat) : ((l.take i).flatMap φ).length≤i:=by
  induction l generalizing i with
  | nil=>simp
  | cons b l ih =>
    cases i with
    | zero=>simp
    | succ i =>
      have:=ih i
      have:=hφ b
      simp only [List.take_succ_cons,List.flatMap_cons,List.length_append]
      omega
end M
namespace M
@[simp] theorem Vf (i : Nat) : ((i : Int) < 0) = False:=by simp
end M
namespace M
def fQ {α : Type} (f : α→α) (l : List α) (i : Nat) : List α:=(l.take i).map f ++ l.drop i
@[simp] theorem Xb {α : Type} (f : α→α) (l : List α) (i : Nat) : (fQ f l i).length = l.length:=by simp [fQ]; omega
theorem PN {α : Type} (f : α→α) (l : List α) : fQ f l 0 = l:=by simp [fQ]
theorem PI {α : Type} (f : α→α) (l : List α) : fQ f l l.length = l.map f:=by simp [fQ]
theorem PJ {α : Type} (f : α→α) (l : List α) (i : Nat) (h : i < l.length) : (fQ f l i)[i]? = some l[i]:=by
  unfold fQ
  rw [List.getElem?_append_right (by simp; omega)]
  have : i - ((l.take i).map f).length = 0:=by simp; omega
  rw [this]
  simp [h]
theorem PK {α : Type} (f : α→α) (l : List α) (i : Nat) (h : i < l.length) (h' : i < (fQ f l i).length) : (fQ f l i)[i] = l[i]:=by
  have:=PJ f l i h
  rw [List.getElem?_eq_getElem h'] at this
  exact Option.some.inj this
theorem PL {α : Type} (f : α→α) (l : List α) (i : Nat) (h : i < l.length) : (fQ f l i).set i (f l[i]) = fQ f l (i + 1):=by
  unfold fQ
  rw [List.set_append_right _ _ (by simp; omega),List.drop_eq_getElem_cons h]
  have : i - ((l.take i).map f).length = 0:=by simp; omega
  rw [this,List.take_succ_eq_append_getElem h]
  simp only [List.set_cons_zero,List.map_append,List.map_cons,List.map_nil,List.append_assoc,List.cons_append,List.nil_append]
end M
namespace M
@[simp] theorem PS (m : Md) : ∀ (i : Nat) (l : List (List X)),X.bx m (l.take i) = (X.bx m l).take i
  | 0,l=>by simp [X.bx]
  | i + 1,[]=>by simp [X.bx]
  | i + 1,a :: l=>by simp [X.bx,PS m i l]
@[simp] theorem PR (m : Md) : ∀ (i : Nat) (l : List (List X)),X.bx m (l.drop i) = (X.bx m l).drop i
  | 0,l=>by simp
  | i + 1,[]=>by simp [X.bx]
  | i + 1,a :: l=>by simp [X.bx,PR m i l]
end M
set_option linter.unusedVariables false
set_option linter.unusedSimpArgs false
namespace M
open Go
abbrev xC : ah:=[99,111,110,116,101,110,116,45,108,101,110,103,116,104]
abbrev gm : ah:=[118,97,114,121]
theorem yp {l : List ah} {a : ah} (h : a∈l) : a.length≤wL wS l:=gK (w:=wS) h
theorem CB {l : List aH} {a : aH} (h : a∈l) : a.name.length + a.value.length≤wL aL l:=gK (w:=aL) h
def fV (fs : List aH) (n : ah) : Option (Nat×aH):=cG (fun f=>decide (f.name = n)) 0 fs
def gu (o : Option (Nat×aH)) : Int:=o.elim (-1) fun x=>(x.1 : Int)
def cN (fs : List aH) (n : ah) : Option ah:=(fV fs n).map fun x=>x.2.value
theorem IC {fs : List aH} {n : ah} {i : Nat} {f : aH} (h : fV fs n = some (i,f)) : ∃ hi : i < fs.length,fs[i] = f∧f.name = n:=by
  obtain ⟨_,h2,h3⟩:=ry h
  simp at h2 h3
  obtain ⟨hi,e⟩:=List.getElem?_eq_some_iff.1 h2
  exact ⟨hi,e,h3⟩
theorem zG (fs : List aH) (n : ah) : ((cN fs n).getD []).length≤wL aL fs:=by
  unfold cN
  cases h : fV fs n with
  | none=>simp
  | some x =>
    obtain ⟨i,f⟩:=x
    obtain ⟨hi,rfl,_⟩:=IC h
    have:=CB (List.getElem_mem hi)
    simp
    omega
def ga (fs : List aH) (x : aH×Nat) : Bool:=eM x.1.name && gJ x.1.value && decide (gu (fV fs x.1.name) = x.2) && !decide (x.1.name = xC)
def oO (fs : List aH) : Bool:=aW (ga fs) fs.zipIdx && decide ((fs.length : Int)≤8)
def nV (r : cM) : Bool:=decide (100≤r.status∧r.status≤599) && oO r.fields && decide ((r.body.length : Int)≤120)
def kf (fs : List aH) : List ah:=(gL ((cN fs gm).getD [])).map ck
def BL (l : List ah) : Bool:=aW eM l && decide ((l.length : Int)≤4)
def gY (o : Ob) : Bool:=nV o.resp && iM o.path && decide (0≤o.t∧o.t≤1000000) && BL o.names && decide (o.names = kf o.resp.fields) && decide (o.values.length = o.names.length) && aW gJ o.values
def gM (b : Bn) : Bool:=decide (0≤b.t∧b.t≤1000000) && (if b.kind = 1∨b.kind = 2 then iM b.a && decide (b.b = []) else if b.kind = 3 then eM b.a && gJ b.b else false)
def iH (b : Bn) (o : Ob) : Bool:=decide (o.t≤b.t) && gM b && gY o && (if b.kind = 1 then decide (o.path = b.a) else if b.kind = 2 then b.a.isPrefixOf o.path else decide (cN o.resp.fields b.a = some b.b))
def jg (l : List Bn) (o : Ob) : Bool:=l.any fun b=>iH b o
def nU (w : Wr) : Bool:=decide (0≤w.at_∧w.at_≤19)
def nT (d : dY) : Bool:=aW nU d.pending && decide ((d.cells.length : Int) = 20) && decide ((d.pending.length : Int)≤16)
def js (l : List Kp) (i : Nat) : Int:=if i = 0 then 0 else (l[i - 1]?.map fun k=>k.seq).getD 0
def mq (S : Int) (l : List Kp) (x : Kp×Nat) : Bool:=gY x.1.obj && decide (5≤x.1.at_∧x.1.at_≤19) && aW (fun y=>decide ¬ y.at_ = x.1.at_) (l.take x.2) && decide (js l x.2 < x.1.seq) && decide (x.1.seq < S)
def gX (S : Int) (l : List Kp) (x : Kp×Nat) : Bool:=gY x.1.obj && decide (5≤x.1.at_∧x.1.at_≤19) && decide (1≤x.1.seq∧x.1.seq≤S - 1) && decide (x.2 = 0∨js l x.2 < x.1.seq) && aW (fun y=>decide ¬ y.at_ = x.1.at_) (l.take x.2)
def qa (S : Int) (l : List Kp) : Bool:=aW (mq S l) l.zipIdx
theorem BV (l : List Kp) (i : Nat) (h : i < l.length) : js l (i + 1) = l[i].seq:=by simp [js,h]
theorem PC (S : Int) (l : List Kp) : aW (gX S l) l.zipIdx = qa S l:=by
  unfold qa
  rw [Bool.eq_iff_iff,yz,yz]
  have hm : ∀ x∈l.zipIdx,∃ h : x.2 < l.length,x.1 = l[x.2]:=fun x hx=>by
    obtain ⟨i,hi,rfl⟩:=List.getElem_of_mem hx
    simp at hi
    exact ⟨by simpa using hi,by simp⟩
  have hz : ∀ i (h : i < l.length),(l[i],i)∈l.zipIdx:=fun i h=>by
    have : (l.zipIdx)[i]'(by simpa using h) = (l[i],i):=by simp
    rw [← this]; exact List.getElem_mem _
  constructor
  · intro h x hx
    have h1:=h x hx
    simp only [gX,mq,Bool.and_eq_true,decide_eq_true_eq] at h1 ⊢
    obtain ⟨⟨⟨⟨a,b⟩,c⟩,d⟩,e⟩:=h1
    refine ⟨⟨⟨⟨a,b⟩,e⟩,?_⟩,by omega⟩
    rcases d with d | d
    · rw [d]
      have : js l 0 = 0:=rfl
      omega
    · exact d
  · intro h
    have pos : ∀ i (hi : i < l.length),1≤l[i].seq:=by
      intro i
      induction i with
      | zero =>
        intro hi
        have h1:=h _ (hz 0 hi)
        simp only [mq,Bool.and_eq_true,decide_eq_true_eq] at h1
        have : js l 0 = 0:=rfl
        omega
      | succ i ih =>
        intro hi
        have h1:=h _ (hz (i + 1) hi)
        simp only [mq,Bool.and_eq_true,decide_eq_true_eq] at h1
        have h2:=BV l i (by omega)
        have h3:=ih (by omega)
        omega
    intro x hx
    have h1:=h x hx
    obtain ⟨hl,e⟩:=hm x hx
    have h2:=pos x.2 hl
    rw [← e] at h2
    simp only [gX,mq,Bool.and_eq_true,decide_eq_true_eq] at h1 ⊢
    obtain ⟨⟨⟨⟨a,b⟩,c⟩,d⟩,f⟩:=h1
    exact ⟨⟨⟨⟨a,b⟩,by omega⟩,.inr d⟩,c⟩
theorem Ej {β : Type} (p : β→Bool) : ∀ (l : List β) (k : Nat),(cG p k l).isSome = !aW (fun b=>!p b) l
  | [],_=>rfl
  | b :: l,k=>by
    unfold cG aW
    by_cases h : p b = true
    · simp [h]
    · have:=Ej p l (k + 1)
      unfold aW at this
      simp [h,this]
theorem uu {l : List Kp} {k : Kp} (h : k∈l) : bH k.obj≤wL br l:=gK (w:=br) h
theorem yo {l : List Bn} {b : Bn} (h : b∈l) : aN b≤wL aN l:=gK (w:=aN) h
def iR (s : Sh) : Bool:=nT s.bt && decide ((s.aO.length : Int)≤5) && decide (5≤s.next∧s.next≤19) && decide (1≤s.seq∧s.seq≤100000) && aW gM s.aO && qa s.seq s.ak
end M
set_option linter.unusedVariables false
set_option linter.unusedSimpArgs false
namespace M
open Go
def cK (_ : Int) (k : Int) : Int:=k
def bM (_ : ah) (k : Int) : ah:=nM k
def kW (_ : Bool) (k : Int) : Bool:=decide (k.tmod 3 = 0)
def aB {α : Type} (_ : α) : Nat:=1
def aY {α : Type} (mk : α→Int→α) (n : α→Nat) : List α→Int→List α
  | [],_=>[]
  | a :: l,k=>mk a k :: aY mk n l (k + (n a : Nat))
def nL {α : Type} (n : α→Nat) (l : List α) : Nat:=(l.map n).sum
@[simp] theorem PX {α : Type} (mk : α→Int→α) (n : α→Nat) : ∀ (l : List α) (k : Int),(aY mk n l k).length = l.length
  | [],_=>rfl
  | a :: l,k=>by simp [aY,PX mk n l]
theorem mD {α : Type} (n : α→Nat) (l : List α) (i : Nat) (h : i < l.length) : nL n (l.take (i + 1)) = nL n (l.take i) + n l[i]:=by
  unfold nL
  rw [List.take_succ_eq_append_getElem h,List.map_append,List.sum_append]
  simp
theorem mC {α : Type} (mk : α→Int→α) (n : α→Nat) : ∀ (l : List α) (k : Int) (i : Nat) (h : i < l.length) (h' : i < (aY mk n l k).length),(aY mk n l k)[i] = mk l[i] (k + (nL n (l.take i) : Nat))
  | a :: l,k,0,_,_=>by simp [aY,nL]
  | a :: l,k,i + 1,h,h'=>by
    have h1:=mC mk n l (k + (n a : Nat)) i (by simpa using h) (by simp at h ⊢; omega)
    simp only [aY,List.getElem_cons_succ,List.take_succ_cons,h1]
    congr 1
    simp [nL]; omega
theorem nS {α : Type} (n : α→Nat) (l : List α) (i : Nat) (h : i < l.length) : nL n (l.take i) + n l[i]≤nL n l:=by
  rw [← mD n l i h]
  unfold nL
  conv=>rhs; rw [← List.take_append_drop (i + 1) l]
  rw [List.map_append,List.sum_append]
  omega
theorem P5 {α : Type} (l : List α) : nL (aB : α→Nat) l = l.length:=by
  unfold nL aB
  induction l with
  | nil=>rfl
  | cons a l ih=>simp only [List.map_cons,List.sum_cons,List.length_cons,ih]; omega
theorem nR {α : Type} (n : α→Nat) (h : ∀ a,1≤n a) (l : List α) : l.length≤nL n l:=by
  unfold nL
  induction l with
  | nil=>simp
  | cons a l ih=>have:=h a; simp; omega
theorem p9 {α : Type} (n w : α→Nat) (h : ∀ a,n a≤20 + 20 * w a) (l : List α) : nL n l≤20 * wL w l:=by
  unfold nL wL
  induction l with
  | nil=>simp
  | cons a l ih=>have:=h a; simp at ih ⊢; omega
theorem tA {α : Type} (w : α→Nat) (l : List α) : nL (aB : α→Nat) l≤20 * wL w l:=by
  rw [P5]; unfold wL; omega
def dI (a : aH) (k : Int) : aH:=⟨bM a.name (k),bM a.value (k + 1)⟩
def aC (a : aH) : Nat:=2
theorem Dz (a : aH) : 1≤aC a:=by unfold aC; omega
theorem za (a : aH) : aC a≤20 + 20 * aL a:=by
  unfold aC
  skip
  simp only [aL]
  omega
def nQ (a : Wr) (k : Int) : Wr:=⟨cK a.at_ (k),bM a.text (k + 1)⟩
def cZ (a : Wr) : Nat:=2
theorem Kz (a : Wr) : 1≤cZ a:=by unfold cZ; omega
theorem KA (a : Wr) : cZ a≤20 + 20 * bZ a:=by
  unfold cZ
  skip
  simp only [bZ]
  omega
def nP (a : Kp) (k : Int) : Kp:=⟨⟨bM a.obj.path (k),aY bM aB a.obj.names (k + 1),aY bM aB a.obj.values (k + 1 + (nL aB a.obj.names : Nat)),⟨cK a.obj.resp.status (k + 1 + (nL aB a.obj.names : Nat) + (nL aB a.obj.values : Nat)),aY dI aC a.obj.resp.fields (k + 1 + (nL aB a.obj.names : Nat) + (nL aB a.obj.values : Nat) + 1),bM a.obj.resp.body (k + 1 + (nL aB a.obj.names : Nat) + (nL aB a.obj.values : Nat) + 1 + (nL aC a.obj.resp.fields : Nat))⟩,cK a.obj.t (k + 1 + (nL aB a.obj.names : Nat) + (nL aB a.obj.values : Nat) + 1 + (nL aC a.obj.resp.fields : Nat) + 1)⟩,cK a.at_ (k + 1 + (nL aB a.obj.names : Nat) + (nL aB a.obj.values : Nat) + 1 + (nL aC a.obj.resp.fields : Nat) + 1 + 1),cK a.seq (k + 1 + (nL aB a.obj.names : Nat) + (nL aB a.obj.values : Nat) + 1 + (nL aC a.obj.resp.fields : Nat) + 1 + 1 + 1)⟩
def cS (a : Kp) : Nat:=6 + nL aB a.obj.names + nL aB a.obj.values + nL aC a.obj.resp.fields
theorem Kv (a : Kp) : 1≤cS a:=by unfold cS; omega
theorem Kw (a : Kp) : cS a≤20 + 20 * br a:=by
  unfold cS
  have:=tA wS a.obj.names
  have:=tA wS a.obj.values
  have:=p9 aC aL za a.obj.resp.fields
  simp only [br,bH,cr]
  omega
def nO (a : Bn) (k : Int) : Bn:=⟨cK a.kind (k),bM a.a (k + 1),bM a.b (k + 1 + 1),cK a.t (k + 1 + 1 + 1)⟩
def cY (a : Bn) : Nat:=4
theorem Kt (a : Bn) : 1≤cY a:=by unfold cY; omega
theorem Ku (a : Bn) : cY a≤20 + 20 * aN a:=by
  unfold cY
  skip
  simp only [aN]
  omega
def PY (a : Fl) (k : Int) : Fl:=⟨⟨cK a.q.method (k),bM a.q.path (k + 1),aY dI aC a.q.fields (k + 1 + 1),bM a.q.body (k + 1 + 1 + (nL aC a.q.fields : Nat))⟩,aY cK aB a.who (k + 1 + 1 + (nL aC a.q.fields : Nat) + 1),⟨bM a.old.path (k + 1 + 1 + (nL aC a.q.fields : Nat) + 1 + (nL aB a.who : Nat)),aY bM aB a.old.names (k + 1 + 1 + (nL aC a.q.fields : Nat) + 1 + (nL aB a.who : Nat) + 1),aY bM aB a.old.values (k + 1 + 1 + (nL aC a.q.fields : Nat) + 1 + (nL aB a.who : Nat) + 1 + (nL aB a.old.names : Nat)),⟨cK a.old.resp.status (k + 1 + 1 + (nL aC a.q.fields : Nat) + 1 + (nL aB a.who : Nat) + 1 + (nL aB a.old.names : Nat) + (nL aB a.old.values : Nat)),aY dI aC a.old.resp.fields (k + 1 + 1 + (nL aC a.q.fields : Nat) + 1 + (nL aB a.who : Nat) + 1 + (nL aB a.old.names : Nat) + (nL aB a.old.values : Nat) + 1),bM a.old.resp.body (k + 1 + 1 + (nL aC a.q.fields : Nat) + 1 + (nL aB a.who : Nat) + 1 + (nL aB a.old.names : Nat) + (nL aB a.old.values : Nat) + 1 + (nL aC a.old.resp.fields : Nat))⟩,cK a.old.t (k + 1 + 1 + (nL aC a.q.fields : Nat) + 1 + (nL aB a.who : Nat) + 1 + (nL aB a.old.names : Nat) + (nL aB a.old.values : Nat) + 1 + (nL aC a.old.resp.fields : Nat) + 1)⟩,kW a.zP (k + 1 + 1 + (nL aC a.q.fields : Nat) + 1 + (nL aB a.who : Nat) + 1 + (nL aB a.old.names : Nat) + (nL aB a.old.values : Nat) + 1 + (nL aC a.old.resp.fields : Nat) + 1 + 1)⟩
def y9 (a : Fl) : Nat:=8 + nL aC a.q.fields + nL aB a.who + nL aB a.old.names + nL aB a.old.values + nL aC a.old.resp.fields
def P0 (a : Se) (k : Int) : Se:=⟨⟨cK a.q.method (k),bM a.q.path (k + 1),aY dI aC a.q.fields (k + 1 + 1),bM a.q.body (k + 1 + 1 + (nL aC a.q.fields : Nat))⟩,⟨cK a.resp.status (k + 1 + 1 + (nL aC a.q.fields : Nat) + 1),aY dI aC a.resp.fields (k + 1 + 1 + (nL aC a.q.fields : Nat) + 1 + 1),bM a.resp.body (k + 1 + 1 + (nL aC a.q.fields : Nat) + 1 + 1 + (nL aC a.resp.fields : Nat))⟩,cK a.t (k + 1 + 1 + (nL aC a.q.fields : Nat) + 1 + 1 + (nL aC a.resp.fields : Nat) + 1)⟩
def DA (a : Se) : Nat:=6 + nL aC a.q.fields + nL aC a.resp.fields
def PZ (a : Rp) (k : Int) : Rp:=⟨cK a.client (k),⟨cK a.q.method (k + 1),bM a.q.path (k + 1 + 1),aY dI aC a.q.fields (k + 1 + 1 + 1),bM a.q.body (k + 1 + 1 + 1 + (nL aC a.q.fields : Nat))⟩,⟨cK a.resp.status (k + 1 + 1 + 1 + (nL aC a.q.fields : Nat) + 1),aY dI aC a.resp.fields (k + 1 + 1 + 1 + (nL aC a.q.fields : Nat) + 1 + 1),bM a.resp.body (k + 1 + 1 + 1 + (nL aC a.q.fields : Nat) + 1 + 1 + (nL aC a.resp.fields : Nat))⟩,cK a.kind (k + 1 + 1 + 1 + (nL aC a.q.fields : Nat) + 1 + 1 + (nL aC a.resp.fields : Nat) + 1),cK a.t (k + 1 + 1 + 1 + (nL aC a.q.fields : Nat) + 1 + 1 + (nL aC a.resp.fields : Nat) + 1 + 1),⟨bM a.obj.path (k + 1 + 1 + 1 + (nL aC a.q.fields : Nat) + 1 + 1 + (nL aC a.resp.fields : Nat) + 1 + 1 + 1),aY bM aB a.obj.names (k + 1 + 1 + 1 + (nL aC a.q.fields : Nat) + 1 + 1 + (nL aC a.resp.fields : Nat) + 1 + 1 + 1 + 1),aY bM aB a.obj.values (k + 1 + 1 + 1 + (nL aC a.q.fields : Nat) + 1 + 1 + (nL aC a.resp.fields : Nat) + 1 + 1 + 1 + 1 + (nL aB a.obj.names : Nat)),⟨cK a.obj.resp.status (k + 1 + 1 + 1 + (nL aC a.q.fields : Nat) + 1 + 1 + (nL aC a.resp.fields : Nat) + 1 + 1 + 1 + 1 + (nL aB a.obj.names : Nat) + (nL aB a.obj.values : Nat)),aY dI aC a.obj.resp.fields (k + 1 + 1 + 1 + (nL aC a.q.fields : Nat) + 1 + 1 + (nL aC a.resp.fields : Nat) + 1 + 1 + 1 + 1 + (nL aB a.obj.names : Nat) + (nL aB a.obj.values : Nat) + 1),bM a.obj.resp.body (k + 1 + 1 + 1 + (nL aC a.q.fields : Nat) + 1 + 1 + (nL aC a.resp.fields : Nat) + 1 + 1 + 1 + 1 + (nL aB a.obj.names : Nat) + (nL aB a.obj.values : Nat) + 1 + (nL aC a.obj.resp.fields : Nat))⟩,cK a.obj.t (k + 1 + 1 + 1 + (nL aC a.q.fields : Nat) + 1 + 1 + (nL aC a.resp.fields : Nat) + 1 + 1 + 1 + 1 + (nL aB a.obj.names : Nat) + (nL aB a.obj.values : Nat) + 1 + (nL aC a.obj.resp.fields : Nat) + 1)⟩,cK a.aO (k + 1 + 1 + 1 + (nL aC a.q.fields : Nat) + 1 + 1 + (nL aC a.resp.fields : Nat) + 1 + 1 + 1 + 1 + (nL aB a.obj.names : Nat) + (nL aB a.obj.values : Nat) + 1 + (nL aC a.obj.resp.fields : Nat) + 1 + 1)⟩
def Ky (a : Rp) : Nat:=13 + nL aC a.q.fields + nL aC a.resp.fields + nL aB a.obj.names + nL aB a.obj.values + nL aC a.obj.resp.fields
def oh (a : Rq) (k : Int) : Rq:=⟨a.method,a.path,aY dI aC a.fields (k),a.body⟩
@[simp] theorem Yc (a : Rq) (k : Int) : (oh a k).method = a.method:=rfl
@[simp] theorem Yd (a : Rq) (k : Int) : (oh a k).path = a.path:=rfl
@[simp] theorem Yb (a : Rq) (k : Int) : (oh a k).body = a.body:=rfl
def j9 (a : Rq) : Nat:=nL aC a.fields
theorem R3 (a : Rq) : j9 a≤20 * dh a:=by
  unfold j9
  have:=p9 aC aL za a.fields
  unfold dh
  omega
def jw (a : cM) (k : Int) : cM:=⟨a.status,aY dI aC a.fields (k),a.body⟩
@[simp] theorem Yf (a : cM) (k : Int) : (jw a k).status = a.status:=rfl
@[simp] theorem Ye (a : cM) (k : Int) : (jw a k).body = a.body:=rfl
def fS (a : cM) : Nat:=nL aC a.fields
theorem R4 (a : cM) : fS a≤20 * cr a:=by
  unfold fS
  have:=p9 aC aL za a.fields
  unfold cr
  omega
def og (a : Ob) (k : Int) : Ob:=⟨a.path,aY bM aB a.names (k),aY bM aB a.values (k + (nL aB a.names : Nat)),jw a.resp (k + (nL aB a.names : Nat) + (nL aB a.values : Nat)),a.t⟩
@[simp] theorem X8 (a : Ob) (k : Int) : (og a k).path = a.path:=rfl
@[simp] theorem X9 (a : Ob) (k : Int) : (og a k).resp = jw a.resp (k + (nL aB a.names : Nat) + (nL aB a.values : Nat)):=rfl
@[simp] theorem Ya (a : Ob) (k : Int) : (og a k).t = a.t:=rfl
def jy (a : Ob) : Nat:=nL aB a.names + nL aB a.values + fS a.resp
theorem R2 (a : Ob) : jy a≤20 * bH a:=by
  unfold jy
  have:=tA wS a.names
  have:=tA wS a.values
  have:=R4 a.resp
  unfold bH
  omega
def ur (a : dY) (k : Int) : dY:=⟨aY bM aB a.cells (k),aY nQ cZ a.pending (k + (nL aB a.cells : Nat))⟩
def jx (a : dY) : Nat:=nL aB a.cells + nL cZ a.pending
theorem RZ (a : dY) : jx a≤20 * cB a:=by
  unfold jx
  have:=tA wS a.cells
  have:=p9 cZ bZ KA a.pending
  unfold cB
  omega
def om (a : Sh) (k : Int) : Sh:=⟨ur a.bt (k),aY nP cS a.ak (k + (jx a.bt : Nat)),aY nO cY a.aO (k + (jx a.bt : Nat) + (nL cS a.ak : Nat)),a.next,a.seq⟩
@[simp] theorem Yg (a : Sh) (k : Int) : (om a k).bt = ur a.bt (k):=rfl
@[simp] theorem Yh (a : Sh) (k : Int) : (om a k).next = a.next:=rfl
@[simp] theorem Yi (a : Sh) (k : Int) : (om a k).seq = a.seq:=rfl
def ke (a : Sh) : Nat:=jx a.bt + nL cS a.ak + nL cY a.aO
theorem R5 (a : Sh) : ke a≤20 * bT a:=by
  unfold ke
  have:=RZ a.bt
  have:=p9 cS br Kw a.ak
  have:=p9 cY aN Ku a.aO
  unfold bT
  omega
def GD (a : Ca) (k : Int) : Ca:=⟨om a.iu (k),aY PY y9 a.rB (k + (ke a.iu : Nat)),a.now,aY P0 DA a.seen (k + (ke a.iu : Nat) + (nL y9 a.rB : Nat)),aY PZ Ky a.sent (k + (ke a.iu : Nat) + (nL y9 a.rB : Nat) + (nL DA a.seen : Nat))⟩
@[simp] theorem X1 (a : Ca) (k : Int) : (GD a k).iu = om a.iu (k):=rfl
@[simp] theorem X0 (a : Ca) (k : Int) : (GD a k).now = a.now:=rfl
def qu (a : De) (k : Int) : De:=⟨a.kind,a.client,oh a.q (k),a.a,jw a.resp (k + (j9 a.q : Nat)),a.lK,aY kW aB a.keep (k + (j9 a.q : Nat) + (fS a.resp : Nat))⟩
@[simp] theorem X5 (a : De) (k : Int) : (qu a k).kind = a.kind:=rfl
@[simp] theorem X4 (a : De) (k : Int) : (qu a k).client = a.client:=rfl
@[simp] theorem X6 (a : De) (k : Int) : (qu a k).q = oh a.q (k):=rfl
@[simp] theorem X2 (a : De) (k : Int) : (qu a k).a = a.a:=rfl
@[simp] theorem X7 (a : De) (k : Int) : (qu a k).resp = jw a.resp (k + (j9 a.q : Nat)):=rfl
@[simp] theorem X3 (a : De) (k : Int) : (qu a k).lK = a.lK:=rfl
end M
set_option linter.unusedVariables false
set_option linter.unusedSimpArgs false
namespace M
open Go Go.RowKit
theorem qH.cell [B : Bs] {w : World} (h : qH w) {b k : Nat} {v : Value} (hc : B.W0.cell? ⟨b,k,none⟩ = some v) : w.cell? ⟨b,k,none⟩ = some v:=by
  have hb : b < B.W0.heap.size:=by
    rcases Nat.lt_or_ge b B.W0.heap.size with h | h
    · exact h
    · simp [World.cell?,Array.getElem?_eq_none h] at hc
  have e:=h b hb
  simpa [World.cell?,e] using hc
theorem IG (w : World) : Below w.heap.size w w.drew:=(Below.refl _ _).drew
theorem Cz {cs : List C} {s c : ByteArray} (h : cs.map C.er = [.str s,.str c]) : cs = [.str s,.str c]:=by
  obtain ⟨a,r,rfl,h1,h2⟩:=map_cons h
  obtain ⟨b,r',rfl,h3,h4⟩:=map_cons h2
  obtain rfl:=map_nil h4
  rw [ja h1,ja h3]
theorem Uk [Bs] {P : Program} {f0 : FuncId} (hc : ∀ (s : ByteArray) (c : UInt8),c.toNat < 128→∀ w,s.size≤9223372036854775807 →
    Calls P f0 #[.string s,.string ⟨#[c]⟩] w fun e w'=>e = .returned (.string ⟨(Lib.trimB s.data.toList c).toArray⟩)∧(w' = w∨w' = w.drew)) : (eL f0 yh).Sound P :=
  BM fun xs r hg w zl zb cs hx hA hs=>by
    unfold yh at hg
    split at hg
    · rename_i s c
      split at hg
      · rename_i hh
        cases hg
        obtain rfl:=Cz hx
        have e : c = ⟨#[32]⟩:=by
          have:=congrArg List.toArray hh.1
          simp at this
          cases c; simp at this; rw [this]
        subst e
        refine (hc s 32 (by decide) w hh.2).mono fun e w' ⟨he,hw⟩=>⟨.str ⟨(dK s.data.toList).toArray⟩,he,rfl,?_,NI ?_⟩
        · rcases hw with rfl | rfl
          · exact Below.refl _ _
          · exact IG _
        · have:=GH s.data.toList
          have h2:=hh.2
          simp only [ByteArray.size] at h2 ⊢
          simp at this ⊢
          omega
      · cases hg
    · cases hg
theorem RI [B : Bs] {P : Program} {f0 : FuncId} {g1 : Nat} {t9 : TypeId} (hm : ∃ m,B.W0.cell? ⟨g1,0,none⟩ = some (.int .i64 m)) (hc : ∀ (s sep : ByteArray) (m : Int) (w : World),s.size < 4294967281→w.cell? ⟨g1,0,none⟩ = some (.int .i64 m)→1≤sep.size →
    Calls P f0 #[.string s,.string sep] w fun e w'=>e = .returned (.slice (some ⟨w.heap.size,0,none⟩) (Lib.countB s sep + 1) (Lib.countB s sep + 1))∧w' = w.alloc (.cells ((Lib.splitB sep 0 (Lib.countB s sep) s).map Value.string).toArray t9)) : (eL f0 x9).Sound P :=
  BM fun xs r hg w zl zb cs hx hA hs=>by
    unfold x9 at hg
    split at hg
    · rename_i s c
      split at hg
      · rename_i hh
        cases hg
        obtain rfl:=Cz hx
        obtain ⟨m,hm⟩:=hm
        have hlen:=Lib.splitB_all c hh.2 0 _ s rfl
        have EP:=Lib.splitB_data c 0 (Lib.countB s c) s
        refine (hc s c m w hh.1 (hs.cell hm) hh.2).mono fun e w' ⟨he,hw⟩=>?_
        subst hw
        refine ⟨.row .own 1 (some (w.heap.size,0,none)) (Lib.splitB c 0 (Lib.countB s c) s).length (Lib.splitB c 0 (Lib.countB s c) s).length fun i _=>.str ((Lib.splitB c 0 (Lib.countB s c) s).getD i ByteArray.empty),?_,?_,?_,?_⟩
        · rw [he,hlen]; rfl
        · rw [Rm]
          unfold B2
          congr 1
          have : Lib.split s.data.toList c.data.toList = (Lib.splitB c 0 (Lib.countB s c) s).map (·.data.toList):=EP.symm
          rw [this,List.map_map]
          refine List.map_congr_left fun x _=>?_
          simp
        · exact (Below.refl _ _).alloc (Nat.le_refl _) _
        · refine NH (Nat.le_refl _) (t:=t9) ?_ fun x hx=>?_
          · show (w.heap.push _)[w.heap.size]? = _
            simp
          · have h1 : x.data.toList∈Lib.splitK c.data.toList 0 (Lib.countB s c) s.data.toList:=by rw [← EP]; exact List.mem_map_of_mem hx
            have h2 : ∀ (k : Nat) (l : List UInt8),∀ y∈Lib.splitK c.data.toList 0 k l,y.length≤l.length:=by
              intro k
              induction k with
              | zero=>intro l y hy; simp [Lib.splitK] at hy; rw [hy]; exact Nat.le_refl _
              | succ k ih =>
                intro l y hy
                unfold Lib.splitK at hy
                split at hy
                · rw [List.mem_singleton.1 hy]; exact Nat.le_refl _
                · rcases List.mem_cons.1 hy with rfl | hy
                  · simp
                    omega
                  · have:=ih _ _ hy; simp at this; omega
            have h3:=h2 _ _ _ h1
            have h4:=hh.1
            have e1 : s.size = s.data.toList.length:=Lib.size_eq _
            have e2 : x.size = x.data.toList.length:=Lib.size_eq _
            omega
      · cases hg
    · cases hg
end M
set_option linter.unusedVariables false
namespace Go.Proofs
open Go.RowKit
theorem XQ {H : Type} {enc : TypeId×Value→H} {a : Assume} {C : Checked} {os : Os} {f : FuncId} {fn : Func} {s : ChangeSpec} {conds : List PathCond} {apart fresh handsOn again : Bool} {X : World→Array Value→Prop}
    (hX : ∀ (w w' : World) (args : Array Value),w.heap = w'.heap→X w args→X w' args)
    (own : ownKnob C.prog.godebug = none) (started : os.Started) (noInit : C.prog.inits.idxOf? f = none) (hfn : C.prog.funcs[f]? = some fn)
    (witness : ∃ (w : World) (tape : Tape) (i : Input),w.os = os∧(w.forCall tape i).Shaped C.prog∧i.vars = []∧Input.okWide C.prog (w.forCall tape i) .any w.heap.size f i ∧
      ((s.pre enc C.prog fn conds apart (w.forCall tape i).memory i.args∧X (w.forCall tape i).memory i.args)∧sizedMet enc C.prog fn (OpenSpec.ofChange s) apart (w.forCall tape i).memory i.args)∧a.holds C.prog (lone (Frame.enter C.prog f i.args .normal) [] (w.forCall tape i)))
    (contract : ∀ (W : World) (base : Nat) (args : Array Value) (ds gs : List (DataW H)) (before : List MemPlace),
      (∀ (j : Nat) t v,fn.params[j]? = some t→args[j]? = some v→Value.okWide C.prog W .any base t v) →
      DataW.Whole enc C.prog fn.params.toList s.vars apart W args.toList ds gs before →
      conds.all (PathCond.test C.prog ⟨fn.params.toList,ds,s.plain.varTypes C.prog,gs⟩) = true →
      (DataW.weightsEach C.prog (fn.params.toList ++ s.plain.varTypes C.prog) (ds ++ gs)).all (·≤reachBytes) = true→X W args →
      W.ShapedOpen C.prog →
      a.holds C.prog (lone (Frame.enter C.prog f args .normal) [] W) →
      Calls C.prog f args W fun e W'=>∃ v,e = .returned v∧s.post enc C.prog fn apart fresh handsOn again W args v W') :
    ReturnsInHanded a C os f .any (fun w args=>(s.pre enc C.prog fn conds apart w args∧X w args)∧sizedMet enc C.prog fn (OpenSpec.ofChange s) apart w args) (s.post enc C.prog fn apart fresh handsOn again):=by
  refine returnsInHanded_of_calls own started noInit witness ?_
  intro w tape i _ hsh _ hok hpre hholds
  obtain ⟨_,_,_,fn',Ov,_,_,_,_,hval⟩:=hok
  have e : fn' = fn:=Option.some.inj (Ov.symm.trans hfn)
  subst e
  obtain ⟨⟨⟨ds,gs,before,hw,hc⟩,hx⟩,hz⟩:=hpre
  have hw':=DataW.Whole.of_heap (w':=w.forCall tape i) (by rfl) hw
  refine (contract (w.forCall tape i) w.heap.size i.args ds gs before hval hw' hc (hz.weights hw) (hX _ _ _ (by rfl) hx) hsh hholds).mono fun e W' ⟨v,he,hp⟩=>?_
  subst he
  exact ChangeSpec.post_blind hp
end Go.Proofs
set_option linter.unusedVariables false
set_option linter.unusedSimpArgs false
namespace M
open Go Go.RowKit
end M
set_option linter.unusedVariables false
set_option linter.unusedSimpArgs false
namespace M
open Go Go.RowKit
theorem N9 [B : Bs] {P : Program} {f0 : FuncId} (hc : ∀ (s p : ByteArray) (w : World),
    Calls P f0 #[.string s,.string p] w fun e w'=>e = .returned (.bool (Lib.hasPrefix s.data.toList p.data.toList))∧w' = w) : (eL f0 vC).Sound P :=
  BM fun xs r hg w zl zb cs hx hA hs=>by
    unfold vC at hg
    split at hg
    · rename_i s c
      cases hg
      obtain rfl:=Cz hx
      refine (hc s c w).mono fun e w' ⟨he,hw⟩=>?_
      subst hw
      exact ⟨.bool (Lib.hasPrefix s.data.toList c.data.toList),he,rfl,Below.refl _ _,NG⟩
    · cases hg
end M
set_option linter.unusedVariables false
set_option linter.unusedSimpArgs false
namespace M
open Go Go.RowKit
end M
set_option linter.unusedVariables false
set_option linter.unusedSimpArgs false
namespace M
open Go
theorem Rt {n : Nat} {P : Program} {row : String} {args : Array Value} {w : World} {R : Value→World→Prop} {l : Nat} (h : Rows P row args w R) : RowsIn (Fence.wide.inRound l) n P row args w R :=
  fun c cs _=>let ⟨v,w',r,s⟩:=h c cs; ⟨v,w',r,stepsIn_wide.2 s⟩
theorem Uu {P : Program} {ops : Array Oper} {Q Q' : Exit→Act→World→Prop} {i : Nat} {K K' : Act→World→Prop} {a : Act} {w : World} {l n : Nat}
    (hnd : ∀ o,ops[i]? = some o→∀ c,o.op≠.defer c) (hQ : ∀ c a w,¬ Q (.panic c) a w) (hlo : ¬ LetsOut Q) (hK : ∀ a w,K a w→K' a w)
    (h : wpOp P ops Q i K a w) : wpOpIn (Fence.wide.inRound l) n P ops Q' i K' a w:=by
  unfold wpOp at h
  unfold wpOpIn
  cases ho : ops[i]? with
  | none=>simp only [ho] at h ⊢; exact hK _ _ h
  | some o =>
    simp only [ho] at h ⊢
    split
    · rename_i hw
      rw [if_pos hw] at h
      rcases h with h | h
      · refine ⟨fun _ _=>trivial,?_⟩
        rw [Oper.semAt_eq _ _ _ (hnd o ho)]
        unfold Oper.wp at h
        generalize (execOp a.eval o).run P w = r at h ⊢
        match r,h with
        | .ok (.value u) w',h=>exact hK _ _ h
        | .ok .skip w',h=>exact hK _ _ h
        | .ok (.defer d) w',h=>exact hK _ _ h
        | .ok (.enter f args) w',h =>
          refine ⟨fun hd=>(by cases hd),CallsIn.inRound l (callsIn_wide.2 (Calls.mono h fun e w'' he=>?_))⟩
          match e,he with
          | .returned u,he=>exact hK _ _ he
          | .panicked c,he=>exact (hQ _ _ _ he).elim
          | .outgrown,he=>exact (hlo he).elim
        | .ok (.row row args) w',h=>exact ⟨fun hd=>(by cases hd),RowsIn.mono (Rt h) fun v w'' he=>hK _ _ he⟩
        | .halt (.panic u) w',h=>exact (hQ _ _ _ h).elim
      · exact (hlo h.2).elim
    · rename_i hw
      rw [if_neg hw] at h
      exact ⟨fun _ _=>trivial,hK _ _ h⟩
theorem GS {P : Program} {ops : Array Oper} {Q Q' : Exit→Act→World→Prop} {l n : Nat}
    (hnd : ∀ (i : Nat) (o : Oper),ops[i]? = some o→∀ c,o.op≠.defer c) (hQ : ∀ c a w,¬ Q (.panic c) a w) (hlo : ¬ LetsOut Q) (hN : ∀ a w,Q .normal a w→Q' .normal a w) :
    ∀ {fuel : Nat} {listed : Array Bool} {a : Act} {w : World},wpAny P .any ops Q fuel listed a w→wpAnyIn (Fence.wide.inRound l) n P .any ops Q' fuel listed a w
  | 0,_,_,_,h=>⟨h.1,hN _ _ h.2⟩
  | fuel + 1,_,_,_,h=>⟨fun hr=>hN _ _ (h.1 hr),fun i hi=>Uu (hnd i) hQ hlo (fun _ _ h=>GS hnd hQ hlo hN h) (h.2 i hi)⟩
def atEnd (K : Act→World→Prop) : Exit→Act→World→Prop
  | .normal,a,w=>K a w
  | _,_,_=>False
theorem Re {P : Program} {ops : Array Oper} {Q : Exit→Act→World→Prop} {S : World→Prop} {l n id : Nat} {a : Act} {w : World} (hm : P.follows .mixedOrders = true)
    (hnd : (ops.all fun o=>match o.op with | .defer _=>false | _=>true) = true)
    {N : Nat} (hN : ops.size = N) (h : wpAnyH P .any ops (atEnd fun a w=>Q .normal a w) S N (Array.replicate N false) a w.drew) : (Code.region id ops true).wpIn (Fence.wide.inRound l) n P Q a w:=by
  subst hN
  refine wpIn_region_any hm ?_
  refine GS (Q:=atEnd fun a w=>Q .normal a w) (Q':=Q) (w:=w.drew) (fun i o ho c hc=>?_) (fun _ _ _ h=>h) (fun ⟨_,_,h⟩=>h) (fun _ _ h=>h) (wpAny_of_held _ _ _ _ h)
  have:=Array.all_eq_true_iff_forall_mem.1 hnd o (Array.mem_of_getElem? ho)
  rw [hc] at this
  cases this
theorem aJ {P : Program} {ops : Array Oper} {Q : Exit→Act→World→Prop} {S : World→Prop} {md : Region.Mode} {i d : Nat} {oi : Oper} {v : Value} {fuel : Nat} {listed aI : Array Bool} {tm : Array Value} {df : List Deferred} {w : World} (hi : ops[i]? = some oi)
    (hs : Region.noSelect ops = true) (hf : Region.free md ops listed i = true) (hr : (Region.ready md ops listed).contains i = true)
    (hQ : ∀ c a w,Q (.panic c) (a.put oi.dst v) w→Q (.panic c) a w) (hd : oi.dst = some d) (hl : listed.setIfInBounds i true = aI) (hS : S w) (hy : YieldsIf P ops S oi v { tmps:=tm,defers:=df })
    (h : wpAnyH P md ops Q S fuel aI { tmps:=tm.setIfInBounds d v,defers:=df } w) : wpAnyH P md ops Q S (fuel + 1) listed { tmps:=tm,defers:=df } w:=by
  refine wpAnyH_take hi hs hf hr hQ hy hS ?_
  rw [hd,hl]
  exact h
end M
set_option linter.unusedVariables false
set_option linter.unusedSimpArgs false
namespace Go.Proofs
structure bP where
  p : ByteArray
  a1 : Option Addr
  l1 : Nat
  c1 : Nat
  a2 : Option Addr
  l2 : Nat
  c2 : Nat
  s : Int
  a3 : Option Addr
  l3 : Nat
  c3 : Nat
  b : ByteArray
  t : Int
  k : Int
  q : Int
def bP.v (e : bP) : Nat→Value
  | 0=>.string e.p
  | 1=>.slice e.a1 e.l1 e.c1
  | 2=>.slice e.a2 e.l2 e.c2
  | 3=>.int .i64 e.s
  | 4=>.slice e.a3 e.l3 e.c3
  | 5=>.string e.b
  | 6=>.int .i64 e.t
  | 7=>.int .i64 e.k
  | _=>.int .i64 e.q
def bP.ob (e : bP) : Array Value:=#[.string e.p,.slice e.a1 e.l1 e.c1,.slice e.a2 e.l2 e.c2,.int .i64 e.s,.slice e.a3 e.l3 e.c3,.string e.b,.int .i64 e.t]
def bP.kp (e : bP) : Array Value:=#[.string e.p,.slice e.a1 e.l1 e.c1,.slice e.a2 e.l2 e.c2,.int .i64 e.s,.slice e.a3 e.l3 e.c3,.string e.b,.int .i64 e.t,.int .i64 e.k,.int .i64 e.q]
def bP.z : bP:=⟨⟨#[]⟩,none,0,0,none,0,0,0,none,0,0,⟨#[]⟩,0,0,0⟩
def oM : Array Value:=#[.string ⟨#[]⟩,.slice none 0 0,.slice none 0 0,.int .i64 0,.slice none 0 0,.string ⟨#[]⟩,.int .i64 0]
end Go.Proofs
namespace M
open Go Go.RowKit Go.Proofs
theorem Io [Bs] {P : Program} {f : FuncId} {xs : List X} {r : X}
    (h : ∀ w zl zb cs,cs.map C.er = xs→iT w zl zb cs→kn w zl zb→Calls P f (cs.map C.val).toArray w fun e w'=>∃ c : C,e = .returned c.val∧c.er = r∧Below w.heap.size w w'∧iU w w' c) :
    AC P f xs fun r' ps=>r' = r∧ps = xs.map fun _=>.dead:=by
  intro w zl zb cs e hA gB
  refine (h w zl zb cs e hA gB).mono fun e' w' ⟨c,he,hc,hb,c1,c2,c3⟩=>?_
  have zT : Ext (fun b k=>∃ x∈cs,x.fp b k) w w':=⟨hb.os,hb.tape,hb.output,hb.size,fun b hl=>.inl (hb.block b hl)⟩
  refine ⟨c,cs.map fun x=>.dead x.val,zl,⟨he,by rw [List.map_map]; rfl,zT,⟨fun x hx'=>?_,fun x hx'=>?_,fun x hx' b k hf=>?_,fun b k hz=>Nat.lt_of_lt_of_le (hA.bD b k (hz.imp id fun h=>h.elim)) hb.size,?_⟩,fun x hx' b k hf=>?_,fun _ _ h=>h,fun _ _ h=>.inl h⟩,hc,?_⟩
  · rcases List.mem_cons.1 hx' with rfl | hx'
    · exact c1 _
    · obtain ⟨y,_,rfl⟩:=List.mem_map.1 hx'; trivial
  · rcases List.mem_cons.1 hx' with rfl | hx'
    · exact c2
    · obtain ⟨y,_,rfl⟩:=List.mem_map.1 hx'; trivial
  · rcases List.mem_cons.1 hx' with rfl | hx'
    · have h1:=c3 b k hf
      exact ⟨fun hz=>by have:=hA.bD b k (.inl hz); omega,fun hz=>hz⟩
    · obtain ⟨y,_,rfl⟩:=List.mem_map.1 hx'; exact hf.elim
  · refine List.pairwise_cons.2 ⟨fun x hx b k hf hf'=>?_,?_⟩
    · obtain ⟨y,_,rfl⟩:=List.mem_map.1 hx; exact hf'
    · refine List.pairwise_iff_getElem.2 fun i j hi hj _ b k hf=>?_
      obtain ⟨y,_,hy⟩:=List.mem_map.1 (List.getElem_mem hi)
      rw [← hy] at hf
      exact hf.elim
  · rcases List.mem_cons.1 hx' with rfl | hx'
    · exact .inr (c3 b k hf)
    · obtain ⟨y,_,rfl⟩:=List.mem_map.1 hx'; exact hf.elim
  · rw [← e]
    simp [List.map_map,Function.comp_def,C.er]
theorem Rn {w w' : World} {Z Z' : Md→Nat→Nat→Prop} {B sz len cap : Nat} {A : Option Ad} {e : Nat→Nat→C} (hs : ∀ i j,i < len→j < sz→∃ s,e i j = .str s)
    (h : (C.row .own sz A len cap e).ok w Z) (hB : ∀ b k,(C.row .own sz A len cap e).fp b k→B≤b)
    (hk : ∀ b arr t fz,B≤b→w.heap[b]? = some (.cells arr t fz)→w'.heap[b]? = some (.cells arr t fz)) : (C.row .own sz A len cap e).ok w' Z':=by
  obtain ⟨h1,h2,h3,h4,h5⟩:=h
  have hA : ∀ g o,A = some (g,o,none)→B≤g:=fun g o e=>hB g 0 ⟨rfl,.inl ⟨o,e⟩⟩
  refine ⟨h1,fun i j hi hj=>?_,fun i j hi hj=>?_,fun _=>?_,h5⟩
  · obtain ⟨g,o,e1,e2,e3⟩:=h2 i j hi hj
    refine ⟨g,o,e1,?_,fun hm=>(hm rfl).elim⟩
    unfold World.cell? at e2 ⊢
    simp only at e2 ⊢
    cases hg : w.heap[g]? with
    | none=>rw [hg] at e2; simp at e2
    | some ob =>
      cases ob with
      | cells arr t fz=>rw [hk g arr t fz (hA g o e1) hg]; rw [hg] at e2; exact e2
      | _=>rw [hg] at e2; simp at e2
  · obtain ⟨a1,a2,a3,a4⟩:=h3 i j hi hj
    obtain ⟨s,hs⟩:=hs i j hi hj
    refine ⟨a1,a2,a3,?_⟩
    rw [hs] at a4 ⊢
    exact a4
  · rcases h4 rfl with h4 | ⟨g,o,arr,t,fz,e1,e2,e3,e4⟩
    · exact .inl h4
    · refine .inr ⟨g,o,arr,t,fz,e1,hk g arr t fz (hA g o e1) e2,e3,fun k k1 k2=>?_⟩
      have:=e4 k k1 k2
      unfold World.frozen? at this ⊢
      simp only at this ⊢
      rw [e2] at this
      rw [hk g arr t fz (hA g o e1) e2]
      exact this
theorem va {c : C} {xs : List X} (h : c.er = .agg xs) : ∃ f,c = .agg xs.length f∧∀ j x,xs[j]? = some x→(f j).er = x:=by
  cases c with
  | agg n f =>
    simp only [C.er,X.agg.injEq] at h
    have hn : n = xs.length:=by rw [← h]; simp
    subst hn
    refine ⟨f,rfl,fun j x hj=>?_⟩
    obtain ⟨hl,_⟩:=List.getElem?_eq_some_iff.1 hj
    rw [← h] at hj
    simp [hl] at hj
    exact hj
  | _=>simp [C.er] at h
theorem K7 {c : C} {m : Md} {xs : List X} (h : c.er = .ptr m xs) : ∃ g o f,c = .ptr m g o xs.length f∧∀ j x,xs[j]? = some x→(f j).er = x:=by
  cases c with
  | ptr m' g o n f =>
    simp only [C.er,X.ptr.injEq] at h
    obtain ⟨rfl,h⟩:=h
    have hn : n = xs.length:=by rw [← h]; simp
    subst hn
    refine ⟨g,o,f,rfl,fun j x hj=>?_⟩
    obtain ⟨hl,_⟩:=List.getElem?_eq_some_iff.1 hj
    rw [← h] at hj
    simp [hl] at hj
    exact hj
  | _=>simp [C.er] at h
theorem Ro {sz len : Nat} {e : Nat→Nat→C} {rows : List (List X)} (hl : len = rows.length) (h : ∀ i,i < len→rows[i]? = some ((List.range sz).map fun j=>(e i j).er)) (hr : ∀ r∈rows,∀ x∈r,∃ s,x = .str s) : ∀ i j,i < len→j < sz→∃ s,e i j = .str s:=by
  intro i j hi hj
  have h1:=h i hi
  obtain ⟨s,hs⟩:=hr _ (List.mem_of_getElem? h1) (e i j).er (List.mem_map.2 ⟨j,List.mem_range.2 hj,rfl⟩)
  exact ⟨s,ja hs⟩
theorem Gb (l : List ah) : ∀ r∈l.map eS,∀ x∈r,∃ s,x = .str s:=by
  intro r hr x hx
  obtain ⟨s,_,rfl⟩:=List.mem_map.1 hr
  simp at hx
  exact ⟨_,hx⟩
theorem Rs (l : List aH) : ∀ r∈l.map aE,∀ x∈r,∃ s,x = .str s:=by
  intro r hr x hx
  obtain ⟨s,_,rfl⟩:=List.mem_map.1 hr
  simp at hx
  rcases hx with rfl | rfl <;> exact ⟨_,rfl⟩
theorem Cq {w w' : World} {Z Z' : Md→Nat→Nat→Prop} {B sz : Nat} {c : C} {rows : List (List X)} (hr : ∀ r∈rows,∀ x∈r,∃ s,x = .str s) (h : c.er = .row .own sz rows) (hok : c.ok w Z) (hB : ∀ b k,c.fp b k→B≤b)
    (hk : ∀ b arr t fz,B≤b→w.heap[b]? = some (.cells arr t fz)→w'.heap[b]? = some (.cells arr t fz)) : c.ok w' Z':=by
  obtain ⟨A,len,cap,e,rfl,hlen,hrow⟩:=rj h
  exact Rn (Ro hlen hrow hr) hok hB hk
theorem P9 {w w' : World} {Z Z' : Md→Nat→Nat→Prop} {B : Nat} {c : C} {o : Ob} (h : c.er = .agg (bw .own o)) (hok : c.ok w Z) (hB : ∀ b k,c.fp b k→B≤b)
    (hk : ∀ b arr t fz,B≤b→w.heap[b]? = some (.cells arr t fz)→w'.heap[b]? = some (.cells arr t fz)) : c.ok w' Z':=by
  obtain ⟨f,rfl,hf⟩:=va h
  obtain ⟨h1,h2⟩:=hok
  have bp : ∀ j,j < 7→∀ b k,(f j).fp b k→B≤b:=fun j hj b k hh=>hB b k ⟨j,hj,hh⟩
  refine ⟨fun j hj=>⟨(h1 j hj).1,?_⟩,h2⟩
  have EV : j < 7:=hj
  have ho:=(h1 j hj).2
  have hb:=bp j EV
  have e0:=hf 0 _ rfl
  have e1:=hf 1 _ rfl
  have e2:=hf 2 _ rfl
  have e3:=hf 3 _ rfl
  have e4:=hf 4 _ rfl
  have e5:=hf 5 _ rfl
  have e6:=hf 6 _ rfl
  match j,EV with
  | 0,_=>rw [ja e0] at ho ⊢; exact ho
  | 1,_=>exact Cq (Gb _) e1 ho hb hk
  | 2,_=>exact Cq (Gb _) e2 ho hb hk
  | 3,_=>rw [kC e3]; trivial
  | 4,_=>exact Cq (Rs _) e4 ho hb hk
  | 5,_=>rw [ja e5] at ho ⊢; exact ho
  | 6,_=>rw [kC e6]; trivial
theorem mH {c : C} {m : Md} {z : Nat} {rows : List (List X)} (h : c.er = .row m z rows) : ∃ A len cap,c.val = .slice A len cap:=by
  obtain ⟨A,len,cap,e,rfl,_,_⟩:=rj h
  exact ⟨_,_,_,rfl⟩
theorem K5 {f : Nat→C} {k : Kp} {m : Md} (h : ∀ j x,(aP m k)[j]? = some x→(f j).er = x) : ∃ x : bP,(∀ j,j < 9→(f j).val = x.v j)∧x.p = ⟨k.obj.path.toArray⟩:=by
  obtain ⟨A1,l1,c1,h1⟩:=mH (h 1 _ rfl)
  obtain ⟨A2,l2,c2,h2⟩:=mH (h 2 _ rfl)
  obtain ⟨A4,l4,c4,h4⟩:=mH (h 4 _ rfl)
  refine ⟨⟨⟨k.obj.path.toArray⟩,A1,l1,c1,A2,l2,c2,k.obj.resp.status,A4,l4,c4,⟨k.obj.resp.body.toArray⟩,k.obj.t,k.at_,k.seq⟩,fun j hj=>?_,rfl⟩
  match j,hj with
  | 0,_=>rw [ja (h 0 _ rfl)]; rfl
  | 1,_=>exact h1
  | 2,_=>exact h2
  | 3,_=>rw [kC (h 3 _ rfl)]; rfl
  | 4,_=>exact h4
  | 5,_=>rw [ja (h 5 _ rfl)]; rfl
  | 6,_=>rw [kC (h 6 _ rfl)]; rfl
  | 7,_=>rw [kC (h 7 _ rfl)]; rfl
  | 8,_=>rw [kC (h 8 _ rfl)]; rfl
theorem IB {W : World} {zl zb : Nat→Nat→Prop} {l : List C} (h : ∀ x∈l,x.ok W (Zf zl zb)∧x.bare∧∀ b k,¬ x.fp b k) (hz : ∀ b k,zl b k∨zb b k→b < W.heap.size) : iT W zl zb l :=
  ⟨fun x hx=>(h x hx).1,fun x hx=>(h x hx).2.1,fun x hx b k hf=>((h x hx).2.2 b k hf).elim,hz,List.pairwise_iff_getElem.2 fun i j hi hj _ b k hf=>((h _ (List.getElem_mem hi)).2.2 b k hf).elim⟩
theorem zB [Bs] {w W : World} {zl zb : Nat→Nat→Prop} (h : kn w zl zb) (hb : Below w.heap.size w W) : kn W zl zb:=fun b hb0=>by
  obtain ⟨h1,h2⟩:=h b hb0
  have hlt : b < w.heap.size:=by
    rcases Nat.lt_or_ge b w.heap.size with h' | h'
    · exact h'
    · rw [Array.getElem?_eq_none h'] at h1
      have:=Array.getElem?_eq_getElem hb0
      rw [← h1] at this
      cases this
  exact ⟨(hb.block b hlt).trans h1,h2⟩
theorem BN {w W : World} {zl zb : Nat→Nat→Prop} (hz : ∀ b k,zl b k∨zb b k→b < w.heap.size) (hb : Below w.heap.size w W) {c : C} (h : c.ok w (Zf zl zb)) : c.ok W (Zf zl zb) :=
  C.dc (S:=fun _ _=>False) (⟨hb.os,hb.tape,hb.output,hb.size,fun b hl=>.inl (hb.block b hl)⟩ : Ext (fun _ _=>False) w W) (fun _ _ _ _ hs=>hs) c (fun _ _ _ hs=>hs) h
theorem yV [Bs] {P : Program} {f : FuncId} {xs : List X} {r0 : X} (hac : AC P f xs fun r _=>r = r0) {W : World} {zl zb : Nat→Nat→Prop} {cs : List C} (he : cs.map C.er = xs) (hl : ∀ x∈cs,x.ok W (Zf zl zb)∧x.bare∧∀ b k,¬ x.fp b k) (hz : ∀ b k,zl b k∨zb b k→b < W.heap.size) (hg : kn W zl zb) :
    Calls P f (cs.map C.val).toArray W fun e w'=>∃ r : C,e = .returned r.val∧r.er = r0∧Below W.heap.size W w'∧(∃ Z,r.ok w' Z)∧r.bare∧∀ b k,r.fp b k→W.heap.size≤b :=
  (hac W zl zb cs he (IB hl hz) hg).mono fun e w' ⟨r,ps,ay,hD,hr⟩ =>
    ⟨r,hD.ends,hr,(hD.ext.mono (S':=fun _ _=>False) fun b k ⟨x,hx,hf⟩ _=>(hl x hx).2.2 b k hf).below,⟨_,hD.all.ok _ (List.mem_cons_self ..)⟩,hD.all.bare _ (List.mem_cons_self ..),fun b k hf=>by
      rcases hD.dom r (List.mem_cons_self ..) b k hf with ⟨y,hy,hf⟩ | h
      · exact ((hl y hy).2.2 b k hf).elim
      · exact h⟩
theorem P8 {c : C} {m : Md} {o : Ob} (h : c.er = .agg (bw m o)) : ∃ O : bP,c.val = .agg O.ob:=by
  obtain ⟨f,rfl,hf⟩:=va h
  obtain ⟨A1,l1,c1,h1⟩:=mH (hf 1 _ rfl)
  obtain ⟨A2,l2,c2,h2⟩:=mH (hf 2 _ rfl)
  obtain ⟨A4,l4,c4,h4⟩:=mH (hf 4 _ rfl)
  refine ⟨⟨⟨o.path.toArray⟩,A1,l1,c1,A2,l2,c2,o.resp.status,A4,l4,c4,⟨o.resp.body.toArray⟩,o.t,0,0⟩,?_⟩
  have e0:=ja (hf 0 _ rfl)
  have e3:=kC (hf 3 _ rfl)
  have e5:=ja (hf 5 _ rfl)
  have e6:=kC (hf 6 _ rfl)
  simp [C.val,bP.ob,List.range_succ,h1,h2,h4,e0,e3,e5,e6]
theorem Lr {α : Type} {p : α→Bool} {l : List α} {i : Nat} {hi : i < l.length} (h : p l[i] = true) (h2 : ∀ j (hj : j < l.length),i < j→p l[j] = false) : l.reverse.find? p = some l[i]:=by
  have e : l = l.take i ++ l[i] :: l.drop (i + 1):=by rw [← List.drop_eq_getElem_cons hi,List.take_append_drop]
  have hd : ∀ x∈(l.drop (i + 1)).reverse,¬ p x = true:=by
    intro x hx
    obtain ⟨j,hj,rfl⟩:=List.getElem_of_mem (List.mem_reverse.1 hx)
    rw [List.getElem_drop]
    rw [List.length_drop] at hj
    simp [h2 (i + 1 + j) (by omega) (by omega)]
  conv=>lhs; rw [e]
  rw [List.reverse_append,List.reverse_cons,List.append_assoc,List.find?_append,List.find?_eq_none.2 hd]
  simp [h]
def zO : Ob:=⟨[],[],[],⟨0,[],[]⟩,0⟩
def oT (pS : List ah→List ah→List aH→Bool) (pH : List Bn→Ob→Bool) (s : Sh) (q : Rq) : Option Ob :=
  (s.ak.reverse.find? fun k=>decide (k.obj.path = q.path) && pS k.obj.names k.obj.values q.fields && !pH s.aO k.obj).map fun k=>k.obj
def oS (pS : List ah→List ah→List aH→Bool) (pH : List Bn→Ob→Bool) (s : Sh) (q : Rq) : X:=.au [.agg (bw .own ((oT pS pH s q).getD zO)),.bool (oT pS pH s q).isSome]
open Classical in
noncomputable def ru (pS : List ah→List ah→List aH→Bool) (pH : List Bn→Ob→Bool) (xs : List X) : Option X :=
  if h : ∃ r,∃ s q,xs = [.ptr .af (bn .af s),.agg (cF .af q)]∧bT s≤1073741824∧dh q≤1073741824∧r = oS pS pH s q then some h.choose else none
def zF (j : Nat) : C:=if j = 0∨j = 5 then .str ⟨#[]⟩ else if j = 3∨j = 6 then .int .i64 0 else .row .own (if j = 4 then 2 else 1) none 0 0 fun _ _=>.dead undef
def zC : C:=.agg 7 zF
theorem UA : zC.er = .agg (bw .own zO):=by simp [zC,zF,C.er,List.range_succ,zO]
theorem UC : zC.val = .agg oM:=by simp [zC,zF,C.val,List.range_succ,oM]
theorem G0 (j b k : Nat) : ¬ (zF j).fp b k:=by
  unfold zF
  split
  · exact fun h=>h
  · split
    · exact fun h=>h
    · rintro ⟨_,⟨o,h⟩ | ⟨i,_,hi,_⟩⟩
      · cases h
      · omega
theorem UB {w w' : World} : iU w w' zC:=by
  refine ⟨fun Z=>⟨fun j hj=>?_,fun j hj b k hf=>(G0 j b k hf).elim⟩,fun j hj=>?_,fun b k ⟨j,hj,hf⟩=>(G0 j b k hf).elim⟩
  · unfold zF
    split
    · exact ⟨trivial,by show (0 : Nat)≤_; omega⟩
    · split
      · exact ⟨trivial,trivial⟩
      · exact ⟨trivial,Nat.le_refl _,fun i j hi=>by omega,fun i j hi=>by omega,fun _=>.inl ⟨rfl,rfl⟩,fun i j hi=>by omega⟩
  · unfold zF
    split
    · trivial
    · split <;> trivial
theorem Ep {w w' : World} {c : C} {b : Bool} (h : iU w w' c) (hn : c.dJ) : iU w w' (ot [c,.bool b]):=by
  refine ⟨fun Z=>⟨fun j hj=>?_,fun j hj x k hf j' hj' hne hf'=>?_⟩,fun j hj=>?_,fun x k ⟨j,hj,hf⟩=>?_⟩
  · match j,hj with
    | 0,_=>exact ⟨hn,h.1 Z⟩
    | 1,_=>exact ⟨trivial,trivial⟩
  · match j,hj,j',hj' with
    | 0,_,1,_=>exact hf'
    | 1,_,_,_=>exact hf
    | 0,_,0,_=>exact hne rfl
  · match j,hj with
    | 0,_=>exact h.2.1
    | 1,_=>trivial
  · match j,hj with
    | 0,_=>exact h.2.2 x k hf
    | 1,_=>exact hf.elim
theorem P6 [Bs] {P : Program} {f0 : FuncId} {g : List X→Option X}
    (h : ∀ xs r,g xs = some r→∀ w zl zb cs,cs.map C.er = xs→iT w zl zb cs→kn w zl zb→Calls P f0 (cs.map C.val).toArray w fun e w'=>∃ c : C,e = .returned c.val∧c.er = r∧Below w.heap.size w w'∧iU w w' c) : (eL f0 g).Sound P:=fun f xs o e=>by
  unfold eL at e
  split at e
  · rename_i hf
    subst hf
    split at e
    · rename_i r hr
      cases e
      exact Io (h xs r hr)
    · cases e
  · cases e
theorem RE {c : C} (h : c.bO) : c.bare:=by cases c <;> first | trivial | exact h.elim
theorem Lt {c : C} (h : c.bO) (hf : c.fits .af) (b k : Nat) : ¬ c.fp b k:=by
  cases c with
  | row m sz A len cap e =>
    rintro ⟨rfl,_⟩
    rcases hf with h | h | ⟨_,h⟩ <;> cases h
  | ptr=>exact h.elim
  | agg=>exact h.elim
  | au=>exact h.elim
  | _=>exact fun h=>h
theorem CY {c : C} {z : Nat} {rows : List (List X)} (h : c.er = .row .af z rows) (b k : Nat) : ¬ c.fp b k:=by
  obtain ⟨A,len,cap,e,rfl,_,_⟩:=rj h
  rintro ⟨h,_⟩
  cases h
theorem F9 {c : C} {m : Md} {z : Nat} {rows : List (List X)} (h : c.er = .row m z rows) : c.bare:=by
  obtain ⟨A,len,cap,e,rfl,_,_⟩:=rj h
  trivial
theorem Ls [Bs] {P : Program} {f0 fs fh fc : FuncId} {pS : List ah→List ah→List aH→Bool} {pH : List Bn→Ob→Bool}
    (hS : ∀ (ns vs : List ah) (fl : List aH),ns.length≤1073741824→vs.length≤1073741824→fl.length≤1073741824→AC P fs [.row .af 1 (ns.map eS),.row .af 1 (vs.map eS),.row .af 2 (fl.map aE)] fun r _=>r = .bool (pS ns vs fl))
    (hH : ∀ (l : List Bn) (o : Ob),wL aN l≤1073741824→bH o≤1073741824→AC P fh [.row .af 4 (l.map aZ),.agg (bw .af o)] fun r _=>r = .bool (pH l o))
    (hC : ∀ (o : Ob),bH o≤1073741824→AC P fc [.agg (bw .af o)] fun r _=>r = .agg (bw .own o))
    (hw : ∀ (g o : Nat) (A Ab Aq : Option Addr) (len cap lb cb lq cq : Nat) (qm : Int) (qs qb : ByteArray) (E : Nat→bP) (pS pH : Nat→Bool) (R : Nat→bP→World→World→Prop) (w : World),
      len≤1073741824→g < w.heap.size→w.cell? ⟨g,o + 2,none⟩ = some (.slice A len cap)→w.cell? ⟨g,o + 3,none⟩ = some (.slice Ab lb cb) →
      (∀ i j,i < len→j < 9→∃ g o,A = some ⟨g,o,none⟩∧g < w.heap.size∧w.cell? ⟨g,o + i * 9 + j,none⟩ = some ((E i).v j)) →
      (∀ i,i < len→∀ W,Below w.heap.size w W→Calls P fs #[.slice (E i).a1 (E i).l1 (E i).c1,.slice (E i).a2 (E i).l2 (E i).c2,.slice Aq lq cq] W fun e W'=>e = .returned (.bool (pS i))∧Below W.heap.size W W') →
      (∀ i,i < len→∀ W,Below w.heap.size w W→Calls P fh #[.slice Ab lb cb,.agg (E i).ob] W fun e W'=>e = .returned (.bool (pH i))∧Below W.heap.size W W') →
      (∀ i,i < len→∀ W,Below w.heap.size w W→Calls P fc #[.agg (E i).ob] W fun e W'=>∃ O : bP,e = .returned (.agg O.ob)∧Below W.heap.size W W'∧R i O W W') →
      Calls P f0 #[.pointer (some ⟨g,o,none⟩),.agg #[.int .i64 qm,.string qs,.slice Aq lq cq,.string qb]] w fun e W'=>Below w.heap.size w W' ∧
        ((e = .returned (.tuple #[.agg oM,.bool false])∧∀ i,i < len→¬ ((E i).p = qs∧pS i = true∧pH i = false)) ∨
         (∃ i O W1 W2,i < len∧e = .returned (.tuple #[.agg (bP.ob O),.bool true])∧((E i).p = qs∧pS i = true∧pH i = false)∧(∀ i',i < i'→i' < len→¬ ((E i').p = qs∧pS i' = true∧pH i' = false)) ∧
            Below w.heap.size w W1∧R i O W1 W2∧∀ b arr t fz,W1.heap.size≤b→W2.heap[b]? = some (.cells arr t fz)→W'.heap[b]? = some (.cells arr t fz)))) :
    (eL f0 (ru pS pH)).Sound P :=
  P6 fun xs r hg w zl zb cs hx hA gB=>by
    unfold ru at hg
    split at hg
    · rename_i h
      obtain ⟨s,q,hxs,dy,fN,hr⟩:=h.choose_spec
      cases hg
      rw [hr]
      rw [hxs] at hx
      obtain ⟨c1,r1,rfl,h1,h2⟩:=map_cons hx
      obtain ⟨c2,r2,rfl,h3,h4⟩:=map_cons h2
      obtain rfl:=map_nil h4
      obtain ⟨g,o,f,rfl,hf⟩:=K7 h1
      obtain ⟨fq,rfl,jd⟩:=va h3
      have Qg:=hA.ok _ (List.mem_cons_self ..)
      have Qh:=hA.ok _ (List.mem_cons_of_mem _ (List.mem_cons_self ..))
      have vQ:=hA.bD
      obtain ⟨k1,k2,k3,k4⟩:=Qg
      obtain ⟨q1,q2⟩:=Qh
      obtain ⟨A,len,cap,e,eH,hlen,hrow⟩:=rj (hf 2 _ rfl)
      obtain ⟨Ab,lb,cb,Fa⟩:=mH (hf 3 _ rfl)
      obtain ⟨Aq,lq,cq,Fc⟩:=mH (jd 2 _ rfl)
      have OV:=kC (jd 0 _ rfl)
      have hq1:=ja (jd 1 _ rfl)
      have OW:=ja (jd 3 _ rfl)
      have FL:=(k3 2 (by show 2 < 6; omega)).2.2
      rw [eH] at FL
      obtain ⟨m1,m2,m3,m4,m5⟩:=FL
      have hlo : len = s.ak.length:=by rw [hlen]; simp
      have ji : bT s = cB s.bt + wL br s.ak + wL aN s.aO:=rfl
      have Pb : dh q = q.path.length + wL aL q.fields + q.body.length:=rfl
      have l6:=bC (w:=br) s.ak
      have oY:=bC (w:=aL) q.fields
      have hent : ∀ i (hi : i < len),∀ j x,(aP .af (s.ak[i]'(by omega)))[j]? = some x→(e i j).er = x:=by
        intro i hi j x hj
        have h5:=hrow i hi
        rw [List.getElem?_map,List.getElem?_eq_getElem (by omega)] at h5
        simp only [Option.map_some,Option.some.injEq] at h5
        rw [h5] at hj
        obtain ⟨hl,_⟩:=List.getElem?_eq_some_iff.1 hj
        simp only [List.length_map,List.length_range] at hl
        simp only [List.getElem?_map,List.getElem?_range hl,Option.map_some,Option.some.injEq] at hj
        exact hj
      have hE : ∀ i (hi : i < len),∃ x : bP,(∀ j,j < 9→(e i j).val = x.v j)∧x.p = ⟨(s.ak[i]'(by omega)).obj.path.toArray⟩:=fun i hi=>K5 (hent i hi)
      obtain ⟨E,rE⟩ : ∃ E : Nat→bP,∀ i (hi : i < len),(∀ j,j < 9→(e i j).val = (E i).v j)∧(E i).p = ⟨(s.ak[i]'(by omega)).obj.path.toArray⟩ :=
        ⟨fun i=>if h : i < len then (hE i h).choose else bP.z,fun i hi=>by simp only [dif_pos hi]; exact (hE i hi).choose_spec⟩
      have oZ : ∀ W,Below w.heap.size w W→∀ i,i < len→∀ j,j < 9→(e i j).ok W (Zf zl zb)∧(e i j).bare∧∀ b k,¬ (e i j).fp b k:=fun W hb i hi j hj =>
        ⟨BN vQ hb (m3 i j hi hj).2.2.2,RE (m3 i j hi hj).2.1,Lt (m3 i j hi hj).2.1 (m3 i j hi hj).2.2.1⟩
      have As : ∀ W,Below w.heap.size w W→∀ b k,zl b k∨zb b k→b < W.heap.size:=fun W hb b k h=>Nat.lt_of_lt_of_le (vQ b k h) hb.size
      have OX : ∀ W,Below w.heap.size w W→(fq 2).ok W (Zf zl zb)∧(fq 2).bare∧∀ b k,¬ (fq 2).fp b k:=fun W hb=>⟨BN vQ hb (q1 2 (by show 2 < 4; omega)).2,F9 (jd 2 _ rfl),CY (jd 2 _ rfl)⟩
      have Oc : ∀ W,Below w.heap.size w W→(f 3).ok W (Zf zl zb)∧(f 3).bare∧∀ b k,¬ (f 3).fp b k:=fun W hb=>⟨BN vQ hb (k3 3 (by show 3 < 6; omega)).2.2,F9 (hf 3 _ rfl),CY (hf 3 _ rfl)⟩
      have vH : ∀ i (hi : i < len),(C.agg 7 (e i)).er = .agg (bw .af (s.ak[i]'(by omega)).obj)∧(C.agg 7 (e i)).val = .agg (E i).ob:=by
        intro i hi
        obtain ⟨v1,v2⟩:=rE i hi
        have hn:=hent i hi
        refine ⟨?_,?_⟩
        · have e0:=hn 0 _ rfl
          have e1:=hn 1 _ rfl
          have e2:=hn 2 _ rfl
          have e3:=hn 3 _ rfl
          have e4:=hn 4 _ rfl
          have e5:=hn 5 _ rfl
          have e6:=hn 6 _ rfl
          simp only [C.er,List.range_succ,List.range_zero,List.nil_append,List.cons_append,List.map_cons,List.map_nil,e0,e1,e2,e3,e4,e5,e6]
          rfl
        · have u0:=v1 0 (by decide)
          have u1:=v1 1 (by decide)
          have u2:=v1 2 (by decide)
          have u3:=v1 3 (by decide)
          have u4:=v1 4 (by decide)
          have u5:=v1 5 (by decide)
          have u6:=v1 6 (by decide)
          simp only [C.val,List.range_succ,List.range_zero,List.nil_append,List.cons_append,List.map_cons,List.map_nil,u0,u1,u2,u3,u4,u5,u6,bP.v,bP.ob]
      have hal : ∀ W,Below w.heap.size w W→∀ i,i < len→(C.agg 7 (e i)).ok W (Zf zl zb)∧(C.agg 7 (e i)).bare∧∀ b k,¬ (C.agg 7 (e i)).fp b k:=fun W hb i hi =>
        ⟨⟨fun j hj=>⟨(m3 i j hi (by omega)).1,(oZ W hb i hi j (by omega)).1⟩,fun j hj b k bp=>((oZ W hb i hi j (by omega)).2.2 b k bp).elim⟩,fun j hj=>(oZ W hb i hi j (by omega)).2.1,fun b k ⟨j,hj,bp⟩=>(oZ W hb i hi j (by omega)).2.2 b k bp⟩
      have Ao : ∀ i (hi : i < len),bH (s.ak[i]'(by omega)).obj≤1073741824:=fun i hi=>by
        have:=uu (List.getElem_mem (show i < s.ak.length by omega))
        omega
      have key:=hw g o (A.map fun q=>⟨q.1,q.2.1,q.2.2⟩) Ab Aq len cap lb cb lq cq q.method ⟨q.path.toArray⟩ ⟨q.body.toArray⟩ E
        (fun i=>(s.ak[i]?).elim false fun k=>pS k.obj.names k.obj.values q.fields) (fun i=>(s.ak[i]?).elim false fun k=>pH s.aO k.obj)
        (fun i O W W'=>∃ k,s.ak[i]? = some k∧∃ c : C,c.er = .agg (bw .own k.obj)∧c.val = .agg O.ob∧(∃ Z,c.ok W' Z)∧c.bare∧∀ b k,c.fp b k→W.heap.size≤b)
        w (by omega) k2 ?k1 ?k2 ?k3 ?k4 ?k5 ?k6
      · have ha : ([C.ptr .af g o (bn .af s).length f,C.agg (cF .af q).length fq].map C.val).toArray = #[.pointer (some ⟨g,o,none⟩),.agg #[.int .i64 q.method,.string ⟨q.path.toArray⟩,.slice Aq lq cq,.string ⟨q.body.toArray⟩]]:=by
          simp [C.val,List.range_succ,OV,hq1,Fc,OW]
        rw [ha]
        have Ah : ∀ i (hi : i < s.ak.length),((E i).p = ⟨q.path.toArray⟩∧(s.ak[i]?.elim false fun k=>pS k.obj.names k.obj.values q.fields) = true∧(s.ak[i]?.elim false fun k=>pH s.aO k.obj) = false)↔(decide (s.ak[i].obj.path = q.path) && pS s.ak[i].obj.names s.ak[i].obj.values q.fields && !pH s.aO s.ak[i].obj) = true:=by
          intro i hi
          rw [(rE i (by omega)).2,List.getElem?_eq_getElem hi]
          simp only [Option.elim_some,Bool.and_eq_true,decide_eq_true_eq,Bool.not_eq_true',ByteArray.mk.injEq]
          constructor
          · rintro ⟨a1,a2,a3⟩
            exact ⟨⟨by simpa using congrArg Array.toList a1,a2⟩,a3⟩
          · rintro ⟨⟨a1,a2⟩,a3⟩
            exact ⟨by rw [a1],a2,a3⟩
        refine Calls.mono key fun e' w' ⟨hb,hres⟩=>?_
        rcases hres with ⟨rfl,hno⟩ | ⟨i,O,W1,W2,hi,rfl,hp,zZ,hbW,⟨k,hk,c,h5,h6,⟨Z,h7⟩,h8,h9⟩,hst⟩
        · have hnone : oT pS pH s q = none:=by
            unfold oT
            rw [List.find?_eq_none.2]
            · rfl
            · intro k hk
              obtain ⟨i,hi,rfl⟩:=List.getElem_of_mem (List.mem_reverse.1 hk)
              exact fun h=>hno i (by omega) ((Ah i hi).2 h)
          refine ⟨ot [zC,.bool false],?_,?_,hb,Ep UB trivial⟩
          · simp [ot,C.val,List.range_succ,UC]
          · unfold oS
            rw [hnone]
            simp [ot,C.er,List.range_succ,UA]
        · have hi2 : i < s.ak.length:=by omega
          rw [List.getElem?_eq_getElem hi2] at hk
          cases hk
          have hsome : oT pS pH s q = some s.ak[i].obj:=by
            unfold oT
            rw [Lr (hi:=hi2) ((Ah i hi2).1 hp) (fun j hj hij=>by
              have:=zZ j hij (by omega)
              rw [Ah j hj] at this
              simpa using this)]
            rfl
          have Oq : iU w w' c:=by
            refine ⟨fun Z'=>P9 h5 h7 h9 hst,h8,fun b k hf=>Nat.le_trans hbW.size (h9 b k hf)⟩
          refine ⟨ot [c,.bool true],?_,?_,hb,Ep Oq ?_⟩
          · simp [ot,C.val,List.range_succ,h6]
          · unfold oS
            rw [hsome]
            simp [ot,C.er,List.range_succ,h5]
          · obtain ⟨fo,rfl,_⟩:=va h5
            trivial
      case k1 =>
        have:=(k1 2 (by show 2 < 6; omega)).1
        rw [eH] at this
        exact this
      case k2 =>
        have:=(k1 3 (by show 3 < 6; omega)).1
        rw [Fa] at this
        exact this
      case k3 =>
        intro i j hi hj
        obtain ⟨g',o',e1,e2,_⟩:=m2 i j hi hj
        rw [(rE i hi).1 j hj] at e2
        refine ⟨g',o',by rw [e1]; rfl,?_,e2⟩
        rcases Nat.lt_or_ge g' w.heap.size with h | h
        · exact h
        · simp [World.cell?,Array.getElem?_eq_none h] at e2
      case k4 =>
        intro i hi W hb
        have ho:=Ao i hi
        have nw : ∀ o : Ob,bH o = o.path.length + wL wS o.names + wL wS o.values + cr o.resp:=fun _=>rfl
        have:=nw (s.ak[i]'(by omega)).obj
        have n1:=bC (w:=wS) (s.ak[i]'(by omega)).obj.names
        have n2:=bC (w:=wS) (s.ak[i]'(by omega)).obj.values
        have hc:=yV (hS (s.ak[i]'(by omega)).obj.names (s.ak[i]'(by omega)).obj.values q.fields (by omega) (by omega) (by omega)) (W:=W) (zl:=zl) (zb:=zb) (cs:=[e i 1,e i 2,fq 2]) (by
          simp only [List.map_cons,List.map_nil]
          rw [hent i hi 1 _ rfl,hent i hi 2 _ rfl,jd 2 _ rfl]) (fun x hx=>by
          simp only [List.mem_cons,List.not_mem_nil,or_false] at hx
          rcases hx with rfl | rfl | rfl
          · exact oZ W hb i hi 1 (by decide)
          · exact oZ W hb i hi 2 (by decide)
          · exact OX W hb) (As W hb) (zB gB hb)
        simp only [List.map_cons,List.map_nil,(rE i hi).1 1 (by decide),(rE i hi).1 2 (by decide),Fc] at hc
        refine Calls.mono hc fun e' w' ⟨r,h5,h6,h7,_⟩=>⟨?_,h7⟩
        rw [h5,D0 h6,List.getElem?_eq_getElem (show i < s.ak.length by omega)]
        rfl
      case k5 =>
        intro i hi W hb
        have hc:=yV (hH s.aO (s.ak[i]'(by omega)).obj (by omega) (Ao i hi)) (W:=W) (zl:=zl) (zb:=zb) (cs:=[f 3,.agg 7 (e i)]) (by
          simp only [List.map_cons,List.map_nil]
          rw [(vH i hi).1,hf 3 _ rfl]) (fun x hx=>by
          simp only [List.mem_cons,List.not_mem_nil,or_false] at hx
          rcases hx with rfl | rfl
          · exact Oc W hb
          · exact hal W hb i hi) (As W hb) (zB gB hb)
        simp only [List.map_cons,List.map_nil,(vH i hi).2,Fa] at hc
        refine Calls.mono hc fun e' w' ⟨r,h5,h6,h7,_⟩=>⟨?_,h7⟩
        rw [h5,D0 h6,List.getElem?_eq_getElem (show i < s.ak.length by omega)]
        rfl
      case k6 =>
        intro i hi W hb
        have hc:=yV (hC (s.ak[i]'(by omega)).obj (Ao i hi)) (W:=W) (zl:=zl) (zb:=zb) (cs:=[.agg 7 (e i)]) (by
          simp only [List.map_cons,List.map_nil]
          rw [(vH i hi).1]) (fun x hx=>by
          simp only [List.mem_cons,List.not_mem_nil,or_false] at hx
          rcases hx with rfl
          exact hal W hb i hi) (As W hb) (zB gB hb)
        simp only [List.map_cons,List.map_nil,(vH i hi).2] at hc
        refine Calls.mono hc fun e' w' ⟨r,h5,h6,h7,h8,h9,h10⟩=>?_
        obtain ⟨O,hO⟩:=P8 h6
        exact ⟨O,by rw [h5,hO],h7,_,List.getElem?_eq_getElem (show i < s.ak.length by omega),r,h6,hO,h8,h9,h10⟩
    · cases hg
end M
set_option linter.unusedVariables false
set_option linter.unusedSimpArgs false
namespace M
open Go
theorem kU {α β : Type} {f : α→β} (hf : ∀ a b,f a = f b→a = b) : ∀ {l l' : List α},l.map f = l'.map f→l = l'
  | [],[],_=>rfl
  | [],_ :: _,h=>by cases h
  | _ :: _,[],h=>by cases h
  | a :: l,b :: l',h=>by
    simp only [List.map_cons,List.cons.injEq] at h
    rw [hf _ _ h.1,kU hf h.2]
theorem zi (a b : ah) (h : eS a = eS b) : a = b:=by simpa using h
theorem DL (a b : aH) (h : aE a = aE b) : a = b:=by
  cases a; cases b
  simpa using h
theorem K4 (a b : Wr) (h : eW a = eW b) : a = b:=by
  cases a; cases b
  simpa using h
theorem KX (a b : Bn) (h : aZ a = aZ b) : a = b:=by
  cases a; cases b
  simpa using h
theorem KZ {m : Md} (a b : Rq) (h : cF m a = cF m b) : a = b:=by
  obtain ⟨a1,a2,a3,a4⟩:=a
  obtain ⟨b1,b2,b3,b4⟩:=b
  simp only [cF,List.cons.injEq,X.int.injEq,X.str.injEq,X.row.injEq,ByteArray.mk.injEq,true_and,and_true] at h
  obtain ⟨h1,h2,h3,h4⟩:=h
  rw [h1,kU DL h3,show a2 = b2 by simpa using h2,show a4 = b4 by simpa using h4]
theorem KY {m : Md} (a b : Kp) (h : aP m a = aP m b) : a = b:=by
  obtain ⟨⟨a1,a2,a3,⟨a4,a5,a6⟩,a7⟩,a8,a9⟩:=a
  obtain ⟨⟨b1,b2,b3,⟨b4,b5,b6⟩,b7⟩,b8,b9⟩:=b
  simp only [aP,List.cons.injEq,X.int.injEq,X.str.injEq,X.row.injEq,ByteArray.mk.injEq,true_and,and_true] at h
  obtain ⟨h1,h2,h3,h4,h5,h6,h7,h8,h9⟩:=h
  rw [show a1 = b1 by simpa using h1,kU zi h2,kU zi h3,h4,kU DL h5,show a6 = b6 by simpa using h6,h7,h8,h9]
theorem K0 {m : Md} (a b : Sh) (h : bn m a = bn m b) : a = b:=by
  obtain ⟨⟨a1,a2⟩,a3,a4,a5,a6⟩:=a
  obtain ⟨⟨b1,b2⟩,b3,b4,b5,b6⟩:=b
  simp only [bn,List.cons.injEq,X.int.injEq,X.row.injEq,true_and,and_true] at h
  obtain ⟨h1,h2,h3,h4,h5,h6⟩:=h
  rw [kU zi h1,kU K4 h2,kU KY h3,kU KX h4,h5,h6]
theorem Lo (pS : List ah→List ah→List aH→Bool) (pH : List Bn→Ob→Bool) (s : Sh) (q : Rq) (hs : bT s≤1073741824) (hq : dh q≤1073741824) : ru pS pH [.ptr .af (bn .af s),.agg (cF .af q)] = some (oS pS pH s q):=by
  unfold ru
  have h : ∃ r,∃ s' q',([.ptr .af (bn .af s),.agg (cF .af q)] : List X) = [.ptr .af (bn .af s'),.agg (cF .af q')]∧bT s'≤1073741824∧dh q'≤1073741824∧r = oS pS pH s' q':=⟨_,s,q,rfl,hs,hq,rfl⟩
  rw [dif_pos h]
  obtain ⟨s',q',he,_,_,hr⟩:=h.choose_spec
  rw [hr]
  simp only [List.cons.injEq,X.ptr.injEq,X.agg.injEq,true_and,and_true] at he
  rw [K0 _ _ he.1,KZ _ _ he.2]
end M
