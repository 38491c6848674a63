/- A machine of values for loaded Go functions, sound for the calculus of calls; part 3; no conditions. -/
import Derived.Test.YtcibpfbfblmedaaGreatDoorMb
import Derived.Sort.Grow
import Derived.Deep.Draws
import Derived.Lib.LaidTab
import Derived.MakeChecks
import Derived.Laws.BitsLemmas
import Derived.ChangeArms
import Derived.ChangeReads
import Derived.ChangeOld
import Derived.ChangeShapes
import Derived.SizedLaws
import Derived.RowKit
import Derived.Below
import Derived.Lib.ItoaNum
import Derived.Lib.TrimByte
import Derived.Lib.AtoiAllCases
import Derived.Lib.SplitLaws
import Derived.Lib.Join
import Derived.Lib.IndexMore
import Derived.HandedShaped
import Derived.Lib.Strings
import Derived.Lib.Slices
import Derived.Lib.Walk
import Derived.Stop.LaidErr
import Derived.RangeFuncNested
import Derived.RangeFuncCalls
import Derived.OrdersHeld
import Derived.OrdersIn
import Derived.Lib.SlicesCompact
set_option linter.defProp false
set_option linter.unusedSectionVars false
set_option linter.unusedVariables false
set_option linter.unusedSimpArgs false
set_option linter.unusedVariables false
set_option linter.unusedSimpArgs false
namespace M
open Go
section
variable {C C':ct}{ok:FuncId->Bool}
def agu{C:ct}{d:Option Nat}{s s':ag}{f:FuncId}{xs:List X}(h:r8 d s (C f xs)=some s'):∃o,C f xs=some o/\∀C':ct,C' f xs=some o->r8 d s (C' f xs)=some s':=by
  cases ho:C f xs with
  |none=>rw[ho] at h;cases h
  |some o=>rw[ho] at h;exact⟨o,rfl,λC' h'=>by rw[h'];exact h⟩
def agt{C:ct}{d:Option Nat}{as:List (AV×PM)}{back:zZ}{s':ag}{f:FuncId}{xs:List X}(h:Di d as back (C f xs)=some s'):∃o,C f xs=some o/\∀C':ct,C' f xs=some o->Di d as back (C' f xs)=some s':=by
  cases ho:C f xs with
  |none=>rw[ho] at h;cases h
  |some o=>rw[ho] at h;exact⟨o,rfl,λC' h'=>by rw[h'];exact h⟩
def Pu{f:FuncId}{d:Option Nat}{as:List (AV×PM)}{fv:Option AV}{s s':ag}(h:sX C f d as fv s=some s'):
    ∃xs o,C f xs=some o/\∀C':ct,C' f xs=some o->sX C' f d as fv s=some s':=by
  unfold sX at h⊢;by_cases hb:X.bare.jj (bU as s).1=true
  · simp only[aq hb] at h⊢
    cases hm:dV as with
    |none=>
      simp only[hm] at h⊢
      by_cases hc:xo (bU as s).2 fv f=true
      · simp only[aq hc] at h⊢
        obtain⟨o,h1,h2⟩:=agu h
        exact⟨_,o,h1,h2⟩
      · simp only[ay hc] at h;cases h
    |some xn=>
      obtain⟨x,n⟩:=xn
      simp only[hm] at h⊢
      unfold Er at h⊢
      split at h
      · split at h
        · rename_i y back h1 h2
          simp only[h1,aq h2]
          obtain⟨o,h1,h2⟩:=agt h
          exact⟨_,o,h1,h2⟩
        · cases h
      · cases h
  · simp only[ay hb] at h;cases h
def Qd{o:cA}{s s':ag}(h:cO C ok o s=some s'):(∀C':ct,cO C' ok o s=some s')\/∃f xs r,C f xs=some r/\∀C':ct,C' f xs=some r->cO C' ok o s=some s':=by
  cases o with
  |call d f as=>obtain⟨xs,o,h1,h2⟩:=Pu (C:=C) h;exact .inr ⟨f,xs,o,h1,h2⟩
  |jH d x as=>
    simp only[cO] at h⊢;split at h
    · rename_i f caps hf
      split at h
      · rename_i hok
        obtain⟨xs,o,h1,h2⟩:=Pu (C:=C) h
        refine .inr ⟨f,xs,o,h1,λC' h'=>?_⟩
        simp only[aq hok]
        exact h2 C' h'
      · cases h
    · cases h
  |sW d f x as=>
    simp only[cO] at h⊢;split at h
    · rename_i cs h1
      split at h
      · rename_i h2
        simp only[aq h2]
        refine .inr ?_
        cases ho:C f (.agg (bW cs s).1::gE (bW cs s).2 .dead as (as.map λ_=>.dead)) with
        |none=>rw[ho] at h;cases h
        |some r=>rw[ho] at h;exact⟨f,_,r,ho,λC' h'=>by rw[h'];exact h⟩
      · cases h
    · cases h
  |_=>exact .inl λ_=>h
def P9{g:G}{s s':ag}(h:eG C ok g s=some s'):(∀C':ct,eG C' ok g s=some s')\/∃f xs r,C f xs=some r/\∀C':ct,C' f xs=some r->eG C' ok g s=some s':=by
  obtain⟨gg,o⟩:=g;cases gg with
  |none=>exact Qd h
  |some tb=>
    obtain⟨t,b⟩:=tb;simp only[eG] at h⊢;split at h
    · rename_i v hv
      split at h
      · rename_i h1
        simp only[hv,aq h1]
        exact Qd h
      · rename_i h1
        simp only[hv,ay h1]
        exact .inl λ_=>h
    · exact .inl λ_=>h
    · cases h
def ct.le(C C':ct):Prop:=∀f xs o,C f xs=some o->C' f xs=some o
def Qb(hl:C.le C'){g:G}{s s':ag}(h:eG C ok g s=some s'):eG C' ok g s=some s':=by
  rcases P9 h with h|⟨f,xs,r,h1,h2⟩;· exact h _
  · exact h2 _ (hl _ _ _ h1)
def JI(hl:C.le C'):∀{l:List G} {s s':ag},j7 C ok l s=some s'->j7 C' ok l s=some s'
  |[],_,_,h=>h
  |g::l,s,s',h=>by
    simp only[j7] at h⊢;cases h1:eG C ok g s with
    |none=>rw[h1] at h;cases h
    |some s1=>rw[h1] at h;rw[Qb hl h1];exact JI hl h
def xA(hl:C.le C'):∀{t:DT} {s s':ag},eD C ok t s=some s'->eD C' ok t s=some s'
  |.nil _,_,_,h=>h
  |.step _ g l,s,s',h=>by
    simp only[eD] at h⊢;cases h1:eG C ok g s with
    |none=>rw[h1] at h;cases h
    |some s1=>rw[h1] at h;rw[Qb hl h1];exact xA hl h
  |.alt a b,s,s',h=>by
    simp only[eD] at h⊢;unfold same at h;split at h
    · rename_i x y hx hy
      rw[xA hl hx,xA hl hy]
      exact h
    · cases h
  |.kp _ t,s,s',h=>xA (t:=t) hl h
def HN{k k':ag->cK}{r r':cK}{o:Ex×ag}(h:ga k r=some o)(hr:∀x,r=some x->r'=some x)(hk:∀s,k s=some o->k' s=some o):ga k' r'=some o:=by
  unfold ga at h;split at h;· rw[hr _ rfl];exact hk _ h
  · rw[hr _ rfl];exact h
  · rw[hr _ rfl];exact h
  · cases h
def yH{f f':ag->cK}(hf:∀s o,f s=some o->f' s=some o):∀{n m:Nat} {s:ag} {o:Ex×ag},n<=m->iter f n s=some o->iter f' m s=some o
  |0,_,_,_,_,h=>by cases h
  |n+1,0,_,_,hn,_=>by omega
  |n+1,m+1,s,o,hn,h=>HN h (hf s) λs' h'=>yH hf (by omega) h'
end
noncomputable def bh(f:ag->cK)(s:ag):cK:=by classical exact if h:∃o:Ex×ag,∃n,iter f n s=some o then some (Classical.choose h) else none
def CR{f:ag->cK}{s:ag}{o:Ex×ag}{n:Nat}(h:iter f n s=some o):bh f s=some o:=by have hh:∃o:Ex×ag,∃n,iter f n s=some o:=⟨o,n,h⟩;unfold bh;rw[oZ hh];obtain⟨m,hm⟩:=DQ hh;have h1:=yH (λ_ _ h=>h) (Nat.le_max_left m n) hm;have h2:=yH (λ_ _ h=>h) (Nat.le_max_right m n) h;rw[h1] at h2;exact h2
def Mg{f:ag->cK}{s:ag}{o:Ex×ag}(h:bh f s=some o):∃n,iter f n s=some o:=by
  unfold bh at h;split at h
  · rename_i hh
    cases h
    exact DQ hh
  · cases h
def Mu{α:Type}{a b:Option α}(h1:∀x,a=some x->b=some x)(h2:∀x,b=some x->a=some x):a=b:=by
  cases a with
  |none=>cases b with
    |none=>rfl
    |some y=>exact h2 y rfl
  |some x=>exact(h1 x rfl).symm
def fm(f:ag->cK)(s:ag):bh f s=ga (bh f) (f s):=by
  refine Mu (λo h=>?_) λo h=>?_
  · obtain⟨n,hn⟩:=Mg h
    cases n with
    |zero=>cases hn
    |succ n=>exact HN hn (λ_ h=>h) λs' h'=>CR h'
  · unfold ga at h
    split at h
    · rename_i s' hs
      obtain⟨n,hn⟩:=Mg h
      refine CR (n:=n+1) ?_
      simp only[iter,hs,ga];exact hn
    · rename_i hs;refine CR (n:=1) ?_;simp only[iter,hs,ga];exact h
    · rename_i hs;refine CR (n:=1) ?_;simp only[iter,hs,ga];exact h
    · cases h
noncomputable def aA(C:ct)(ok:FuncId->Bool):A->ag->cK
  |.skip,s=>some (.normal,s)
  |.ret,s=>some (.ret,s)
  |.exit id,s=>some (.exit id,s)
  |.ops l,s=>iZ (j7 C ok l s)
  |.draw t,s=>iZ (eD C ok t s)
  |.seq a b,s=>ga (aA C ok b) (aA C ok a s)
  |.cond c a b,s=>match ax s c with
    |.bool t=>if t=true then aA C ok a s else aA C ok b s
    |_=>none
  |.block id b,s=>lG id (aA C ok b s)
  |.loop b,s=>bh (aA C ok b) s
  |.pk ks b,s=>l9 ks (aA C ok b s)
def Hl{a b:Option ag}(h:∀s,a=some s->b=some s){o:Ex×ag}(ho:iZ a=some o):iZ b=some o:=by
  unfold iZ at ho;split at ho;· rw[h _ rfl];exact ho
  · cases ho
def OP{id:Nat}{a b:cK}(h:∀s,a=some s->b=some s){o:Ex×ag}(ho:lG id a=some o):lG id b=some o:=by
  cases a with
  |none=>cases ho
  |some x=>rw[h _ rfl];exact ho
def Tj{ks:List Nat}{a b:cK}(h:∀s,a=some s->b=some s){o:Ex×ag}(ho:l9 ks a=some o):l9 ks b=some o:=by
  cases a with
  |none=>cases ho
  |some x=>rw[h _ rfl];exact ho
def Y6{C C':ct}{ok:FuncId->Bool}(hl:C.le C'){N:Nat}:∀{t:A} {s:ag} {o:Ex×ag},eA C ok N t s=some o->aA C' ok t s=some o:=by
  intro t;induction t with
  |skip=>intro s o h;exact h
  |ret=>intro s o h;exact h
  |exit id=>intro s o h;exact h
  |ops l=>intro s o h;exact Hl (λs' h'=>JI hl h') h
  |draw l=>intro s o h;exact Hl (λs' h'=>xA hl h') h
  |seq a b iV kg=>intro s o h;exact HN h (λx hx=>iV hx) λs' h'=>kg h'
  |cond c a b iV kg=>
    intro s o h;simp only[eA] at h;simp only[aA];split at h
    · rename_i t ht
      try rw[ht]
      cases t with
      |true=>exact iV h
      |false=>exact kg h
    · cases h
  |block id b ih=>intro s o h;exact OP (λx hx=>ih hx) h
  |loop b ih=>intro s o h;exact CR (yH (λs o h=>ih h) (dc _) h)
  |pk ks b ih=>intro s o h;exact Tj (λx hx=>ih hx) h
def Y7{C C':ct}{ok:FuncId->Bool}(hl:C.le C'){N N':Nat}(hN:N<=N'):∀{t:A} {s:ag} {o:Ex×ag},eA C ok N t s=some o->eA C' ok N' t s=some o:=by
  intro t;induction t with
  |skip=>intro s o h;exact h
  |ret=>intro s o h;exact h
  |exit id=>intro s o h;exact h
  |ops l=>intro s o h;exact Hl (λs' h'=>JI hl h') h
  |draw l=>intro s o h;exact Hl (λs' h'=>xA hl h') h
  |seq a b iV kg=>intro s o h;exact HN h (λx hx=>iV hx) λs' h'=>kg h'
  |cond c a b iV kg=>
    intro s o h;simp only[eA] at h⊢;split at h
    · rename_i t ht
      cases t with
      |true=>exact iV h
      |false=>exact kg h
    · cases h
  |block id b ih=>intro s o h;exact OP (λx hx=>ih hx) h
  |loop b ih=>intro s o h;exact yH (λs o h=>ih h) hN h
  |pk ks b ih=>intro s o h;exact Tj (λx hx=>ih hx) h
def EL{L:ct}{T:iQ}:∀{n m:Nat},n<=m->(exec L T n).le (exec L T m)
  |0,_,_,_,_,_,h=>by cases h
  |n+1,0,hn,_,_,_,_=>by omega
  |n+1,m+1,hn,f,xs,o,h=>by
    have hnm:n<=m:=by omega
    simp only[exec] at h⊢;split at h
    · rename_i F hF
      unfold eF at h⊢
      split at h
      · rename_i hl
        rw[aq hl]
        cases hr:eA (exec L T n) (aB T) n F.body (nR xs) with
        |none=>rw[hr] at h;cases h
        |some r=>rw[hr] at h;rw[Y7 (EL hnm) hnm hr];exact h
      · cases h
    · exact h
noncomputable def ev(L:ct)(T:iQ):ct:=λf xs=>by classical exact if h:∃o:Out,∃n,exec L T n f xs=some o then some (Classical.choose h) else none
def JL{L:ct}{T:iQ}{f:FuncId}{xs:List X}{o:Out}{n:Nat}(h:exec L T n f xs=some o):ev L T f xs=some o:=by have hh:∃o:Out,∃n,exec L T n f xs=some o:=⟨o,n,h⟩;unfold ev;rw[oZ hh];obtain⟨m,hm⟩:=DQ hh;have h1:=EL (Nat.le_max_left m n) f xs _ hm;have h2:=EL (Nat.le_max_right m n) f xs _ h;rw[h1] at h2;exact h2
def EJ{L:ct}{T:iQ}{f:FuncId}{xs:List X}{o:Out}(h:ev L T f xs=some o):∃n,exec L T n f xs=some o:=by
  unfold ev at h;split at h
  · rename_i hh
    cases h
    exact DQ hh
  · cases h
def Zm(L:ct)(T:iQ)(n:Nat):(exec L T n).le (ev L T):=λ_ _ _ h=>JL h
def Zl[Bs]{P:Program}{L:ct}{T:iQ}(hL:L.Sound P)(hT:T.Ok P):(ev L T).Sound P:=λf xs o h=>by obtain⟨n,hn⟩:=EJ h;exact Qo hL hT n f xs o hn
section
variable {L:ct}{T:iQ}
def Qa{g:G}{s s':ag}(h:eG (ev L T) (aB T) g s=some s'):∃n,∀m,n<=m->eG (exec L T m) (aB T) g s=some s':=by
  rcases P9 h with h|⟨f,xs,r,h1,h2⟩;· exact⟨0,λm _=>h _⟩
  · obtain⟨n,hn⟩:=EJ h1
    exact⟨n,λm hm=>h2 _ (EL hm f xs r hn)⟩
def Qf:∀{l:List G} {s s':ag},j7 (ev L T) (aB T) l s=some s'->∃n,∀m,n<=m->j7 (exec L T m) (aB T) l s=some s'
  |[],s,s',h=>⟨0,λm _=>h⟩
  |g::l,s,s',h=>by
    simp only[j7] at h⊢;cases h1:eG (ev L T) (aB T) g s with
    |none=>rw[h1] at h;cases h
    |some s1=>rw[h1] at h;obtain⟨n1,jo⟩:=Qa h1;obtain⟨n2,hn2⟩:=Qf (l:=l) h;exact⟨max n1 n2,λm hm=>by rw[jo m (by omega)];exact hn2 m (by omega)⟩
def AG:∀{l:DT} {s s':ag},eD (ev L T) (aB T) l s=some s'->∃n,∀m,n<=m->eD (exec L T m) (aB T) l s=some s'
  |.nil _,s,s',h=>⟨0,λm _=>h⟩
  |.step _ g l,s,s',h=>by
    simp only[eD] at h⊢;cases h1:eG (ev L T) (aB T) g s with
    |none=>rw[h1] at h;cases h
    |some s1=>rw[h1] at h;obtain⟨n1,jo⟩:=Qa h1;obtain⟨n2,hn2⟩:=AG (l:=l) h;exact⟨max n1 n2,λm hm=>by rw[jo m (by omega)];exact hn2 m (by omega)⟩
  |.alt a b,s,s',h=>by
    simp only[eD] at h⊢;unfold same at h;split at h
    · rename_i x y hx hy
      obtain⟨n1,jo⟩:=AG hx
      obtain⟨n2,hn2⟩:=AG hy
      exact⟨max n1 n2,λm hm=>by rw[jo m (by omega),hn2 m (by omega)];exact h⟩
    · cases h
  |.kp _ t,s,s',h=>AG (l:=t) h
def SW{a:Option ag}{b:Nat->Option ag}(h:∀s,a=some s->∃n,∀m,n<=m->b m=some s){o:Ex×ag}(ho:iZ a=some o):∃n,∀m,n<=m->iZ (b m)=some o:=by
  cases a with
  |none=>cases ho
  |some s=>obtain⟨n,hn⟩:=h s rfl;exact⟨n,λm hm=>by rw[hn m hm];exact ho⟩
def Zj:∀{t:A} {s:ag} {o:Ex×ag},aA (ev L T) (aB T) t s=some o->∃n,∀m,n<=m->eA (exec L T m) (aB T) m t s=some o:=by
  intro t;induction t with
  |skip=>intro s o h;exact⟨0,λm _=>h⟩
  |ret=>intro s o h;exact⟨0,λm _=>h⟩
  |exit id=>intro s o h;exact⟨0,λm _=>h⟩
  |ops l=>intro s o h;exact SW (λs h=>Qf h) h
  |draw l=>intro s o h;exact SW (λs h=>AG h) h
  |seq a b iV kg=>
    intro s o h;simp only[aA] at h;simp only[eA];cases hr:aA (ev L T) (aB T) a s with
    |none=>rw[hr] at h;cases h
    |some r=>
      rw[hr] at h;obtain⟨n1,jo⟩:=iV hr;obtain⟨e,s1⟩:=r;cases e with
      |normal=>obtain⟨n2,hn2⟩:=kg (s:=s1) h;exact⟨max n1 n2,λm hm=>by rw[jo m (by omega)];exact hn2 m (by omega)⟩
      |exit i=>exact⟨n1,λm hm=>by rw[jo m hm];exact h⟩
      |ret=>exact⟨n1,λm hm=>by rw[jo m hm];exact h⟩
  |cond c a b iV kg=>
    intro s o h;simp only[aA] at h;simp only[eA];split at h
    · rename_i t ht
      try rw[ht]
      cases t with
      |true=>exact iV h
      |false=>exact kg h
    · cases h
  |block id b ih=>
    intro s o h;simp only[aA] at h;simp only[eA];cases hr:aA (ev L T) (aB T) b s with
    |none=>rw[hr] at h;cases h
    |some r=>rw[hr] at h;obtain⟨n1,jo⟩:=ih hr;exact⟨n1,λm hm=>by rw[jo m hm];exact h⟩
  |pk ks b ih=>
    intro s o h;simp only[aA] at h;simp only[eA];cases hr:aA (ev L T) (aB T) b s with
    |none=>rw[hr] at h;cases h
    |some r=>rw[hr] at h;obtain⟨n1,jo⟩:=ih hr;exact⟨n1,λm hm=>by rw[jo m hm];exact h⟩
  |loop b ih=>
    intro s o h;simp only[aA] at h;obtain⟨n,hn⟩:=Mg h
    have go:∀(n:Nat) (s:ag),iter (aA (ev L T) (aB T) b) n s=some o->∃k,∀m,k<=m->iter (eA (exec L T m) (aB T) m b) n s=some o:=by
      intro n;induction n with
      |zero=>intro s h;cases h
      |succ n ihn=>
        intro s h;simp only[iter] at h⊢;cases hr:aA (ev L T) (aB T) b s with
        |none=>rw[hr] at h;cases h
        |some r=>
          rw[hr] at h;obtain⟨n1,jo⟩:=ih hr;obtain⟨e,s1⟩:=r;cases e with
          |normal=>obtain⟨n2,hn2⟩:=ihn s1 h;exact⟨max n1 n2,λm hm=>by rw[jo m (by omega)];exact hn2 m (by omega)⟩
          |exit i=>exact⟨n1,λm hm=>by rw[jo m hm];exact h⟩
          |ret=>exact⟨n1,λm hm=>by rw[jo m hm];exact h⟩
    obtain⟨k,hk⟩:=go n s hn;refine⟨max k n,λm hm=>?_⟩;simp only[eA];exact yH (λ_ _ h=>h) (by omega) (hk m (by omega))
noncomputable def EI(L:ct)(T:iQ)(F:Fn)(xs:List X):Option Out:=
  if xs.length=F.n then fin F (aA (ev L T) (aB T) F.body (nR xs)) else none
def Zk{f:FuncId}{F:Fn}(hF:T f=some F)(xs:List X):ev L T f xs=EI L T F xs:=by
  refine Mu (λo h=>?_) λo h=>?_
  · obtain⟨n,hn⟩:=EJ h
    cases n with
    |zero=>cases hn
    |succ n=>
      simp only[exec,hF] at hn
      unfold eF at hn
      unfold EI
      split at hn
      · rename_i hl
        rw[aq hl]
        cases hr:eA (exec L T n) (aB T) n F.body (nR xs) with
        |none=>rw[hr] at hn;cases hn
        |some r=>rw[hr] at hn;rw[Y6 (Zm L T n) hr];exact hn
      · cases hn
  · unfold EI at h
    split at h
    · rename_i hl
      cases hr:aA (ev L T) (aB T) F.body (nR xs) with
      |none=>rw[hr] at h;cases h
      |some r=>
        rw[hr] at h
        obtain⟨n,hn⟩:=Zj hr
        refine JL (n:=n+1) ?_
        simp only[exec,hF,eF,aq hl,hn n (dc n)]
        exact h
    · cases h
def jJ{f:FuncId}(hF:T f=none)(xs:List X):ev L T f xs=L f xs:=by
  refine Mu (λo h=>?_) λo h=>?_
  · obtain⟨n,hn⟩:=EJ h
    cases n with
    |zero=>cases hn
    |succ n=>simpa only[exec,hF] using hn
  · refine JL (n:=1) ?_
    simpa only[exec,hF] using h
end
end M
set_option linter.unusedVariables false
set_option linter.unusedSimpArgs false
namespace M
open Go
section
variable {C:ct}{ok:FuncId->Bool}{T:iQ}
@[simp] def amB(s:ag):aA C ok .skip s=some (.normal,s):=rfl
@[simp] def amz(s:ag):aA C ok .ret s=some (.ret,s):=rfl
@[simp] def amv(i:Nat)(s:ag):aA C ok (.exit i) s=some (.exit i,s):=rfl
@[simp] def amx(l:List G)(s:ag):aA C ok (.ops l) s=iZ (j7 C ok l s):=rfl
@[simp] def amu(t:DT)(s:ag):aA C ok (.draw t) s=iZ (eD C ok t s):=rfl
@[simp] def amA(a b:A)(s:ag):aA C ok (.seq a b) s=ga (aA C ok b) (aA C ok a s):=rfl
@[simp] def ams(i:Nat)(b:A)(s:ag):aA C ok (.block i b) s=lG i (aA C ok b s):=rfl
@[simp] def amw(b:A)(s:ag):aA C ok (.loop b) s=bh (aA C ok b) s:=rfl
@[simp] def amy(ks:List Nat)(b:A)(s:ag):aA C ok (.pk ks b) s=l9 ks (aA C ok b s):=rfl
noncomputable def PR(C:ct)(ok:FuncId->Bool)(a b:A)(s:ag):X->cK
  |.bool t=>if t=true then aA C ok a s else aA C ok b s
  |_=>none
@[simp] def amt(c:AV)(a b:A)(s:ag):aA C ok (.cond c a b) s=PR C ok a b s (ax s c):=by simp only[aA];cases ax s c<;>rfl
@[simp] def alX(a b:A)(s:ag)(t:Bool):PR C ok a b s (.bool t)=if t=true then aA C ok a s else aA C ok b s:=rfl
@[simp] def amq(s:ag):j7 C ok [] s=some s:=rfl
@[simp] def amo(g:G)(l:List G)(s:ag):j7 C ok (g::l) s=(eG C ok g s).bind (j7 C ok l):=rfl
@[simp] def amk(ks:List Nat)(s:ag):eD C ok (.nil ks) s=some (keep ks s):=rfl
@[simp] def aml(i:Nat)(g:G)(t:DT)(s:ag):eD C ok (.step i g t) s=(eG C ok g s).bind (eD C ok t):=rfl
@[simp] def ami(a b:DT)(s:ag):eD C ok (.alt a b) s=same (eD C ok a s) (eD C ok b s):=rfl
@[simp] def amj(ks:List Nat)(t:DT)(s:ag):eD C ok (.kp ks t) s=eD C ok t (keep ks s):=rfl
@[simp] def aoo(s:ag):same (some s) (some s)=some s:=by
  have:s9 s s=true:=by
    induction s with
    |nil=>rfl
    |cons a l ih=>obtain⟨k,x⟩:=a;simp[s9,X.Ql,ih]
  simp[same,this]
@[simp] def ald(c:Prop)[Decidable c](a b:Option ag)(f:ag->Option ag):(if c then a else b).bind f=if c then a.bind f else b.bind f:=by split<;>rfl
def E2(C:ct)(ok:FuncId->Bool)(o:cA)(t:Nat)(b:Bool)(s:ag):X->Option ag
  |.bool v=>if v=b then cO C ok o ((t,.bool b)::s) else some (fY o.dst (.ak []) ((t,.bool (!b))::s))
  |.ak []=>some (fY o.dst (.ak []) s)
  |_=>none
@[simp] def amm(o:cA)(s:ag):eG C ok ⟨none,o⟩ s=cO C ok o s:=rfl
@[simp] def amn(t:Nat)(b:Bool)(o:cA)(s:ag):eG C ok ⟨some (t,b),o⟩ s=E2 C ok o t b s (get s t):=by simp only[eG];split<;>simp_all[E2]
@[simp] def amP(o:cA)(t:Nat)(b v:Bool)(s:ag):E2 C ok o t b s (.bool v)=if v=b then cO C ok o ((t,.bool b)::s) else some (fY o.dst (.ak []) ((t,.bool (!b))::s)):=rfl
@[simp] def amQ(o:cA)(t:Nat)(b:Bool)(s:ag):E2 C ok o t b s (.ak [])=some (fY o.dst (.ak []) s):=rfl
@[simp] def an6(s:ag):iZ (some s)=some (.normal,s):=rfl
@[simp] def an5:iZ none=none:=rfl
@[simp] def an4(c:Prop)[Decidable c](a b:Option ag):iZ (if c then a else b)=if c then iZ a else iZ b:=by split<;>rfl
@[simp] def ahM(k:ag->cK)(s:ag):ga k (some (.normal,s))=k s:=rfl
@[simp] def aoq(k:ag->cK)(i:Nat)(s:ag):ga k (some (.exit i,s))=some (.exit i,s):=rfl
@[simp] def aot(k:ag->cK)(s:ag):ga k (some (.ret,s))=some (.ret,s):=rfl
@[simp] def aos(k:ag->cK):ga k none=none:=rfl
@[simp] def aor(k:ag->cK)(c:Prop)[Decidable c](a b:cK):ga k (if c then a else b)=if c then ga k a else ga k b:=by split<;>rfl
@[simp] def alh(i:Nat)(s:ag):lG i (some (.normal,s))=some (.normal,s):=rfl
@[simp] def ale(i j:Nat)(s:ag):lG i (some (.exit j,s))=if j=i then some (.normal,s) else some (.exit j,s):=rfl
@[simp] def ali(i:Nat)(s:ag):lG i (some (.ret,s))=some (.ret,s):=rfl
@[simp] def alg(i:Nat):lG i none=none:=rfl
@[simp] def alf(i:Nat)(c:Prop)[Decidable c](a b:cK):lG i (if c then a else b)=if c then lG i a else lG i b:=by split<;>rfl
@[simp] def aoh(ks:List Nat)(s:ag):l9 ks (some (.normal,s))=some (.normal,keep ks s):=rfl
@[simp] def aoe(ks:List Nat)(i:Nat)(s:ag):l9 ks (some (.exit i,s))=some (.exit i,s):=rfl
@[simp] def aoi(ks:List Nat)(s:ag):l9 ks (some (.ret,s))=some (.ret,s):=rfl
@[simp] def aog(ks:List Nat):l9 ks none=none:=rfl
@[simp] def aof(ks:List Nat)(c:Prop)[Decidable c](a b:cK):l9 ks (if c then a else b)=if c then l9 ks a else l9 ks b:=by split<;>rfl
def vb(rs:List RV)(n:Nat):cK->Option Out
  |some (.exit _,_)=>none
  |some (_,s)=>if X.clean.cD (dW rs s).1=true/\(dW rs s).1.any X.nq=false then some (vZ (dW rs s).1,r7 0 n (dW rs s).2) else none
  |none=>none
def JR(rs:List RV)(n:Nat)(s:ag):Option Out:=if X.clean.cD (dW rs s).1=true/\(dW rs s).1.any X.nq=false then some (vZ (dW rs s).1,r7 0 n (dW rs s).2) else none
def aE{L:ct}{T:iQ}{f:FuncId}{b:A}{rs:List RV}{n:Nat}(h:T f=some ⟨b,rs,n⟩){xs:List X}(hl:xs.length=n):ev L T f xs=vb rs n (aA (ev L T) (aB T) b (nR xs)):=by rw[Zk h];unfold EI;rw[aq hl];rfl
@[simp] def amO(rs:List RV)(n:Nat)(s:ag):vb rs n (some (.ret,s))=JR rs n s:=rfl
@[simp] def amN(rs:List RV)(n:Nat)(s:ag):vb rs n (some (.normal,s))=JR rs n s:=rfl
@[simp] def amM(rs:List RV)(n:Nat):vb rs n none=none:=rfl
@[simp] def amL(rs:List RV)(n:Nat)(c:Prop)[Decidable c](a b:cK):vb rs n (if c then a else b)=if c then vb rs n a else vb rs n b:=by split<;>rfl
@[simp] def aol(d:Option Nat)(s:ag)(r:X)(ps:List X):r8 d s (some (r,ps))=some (fY d r s):=rfl
@[simp] def aok(d:Option Nat)(s:ag):r8 d s none=none:=rfl
@[simp] def aoj(d:Option Nat)(s:ag)(c:Prop)[Decidable c](a b:Option Out):r8 d s (if c then a else b)=if c then r8 d s a else r8 d s b:=by split<;>rfl
end
attribute [simp] JR cO nR Dm Dn dW r7 post vZ X.nq X.clean X.clean.cD X.clean.bw keep HS Ef sX xo
end M
set_option linter.unusedVariables false
set_option linter.unusedSimpArgs false
namespace M
open Go
def s6(z bytes:Nat):A:=(.seq (.pk [0] (.ops [⟨none,.bT 2 .bO (.k (.row .own z []))⟩])) (.seq (.seq (.pk [0,4] (.ops [⟨none,.mv 3 (.t 0)⟩,⟨none,.uf 4 false (.t 3)⟩])) (.pk [0] (.cond (.t 4) (.seq (.pk [2,7] (.ops [⟨none,.bT 2 .bO (.k (.row .own z []))⟩])) .ret) .skip))) (.seq (.pk [2,7] (.ops [⟨none,.lit 5 .mv z []⟩,⟨none,.mv 6 (.t 0)⟩,⟨none,.app 7 .al z bytes (.t 5) (.t 6)⟩,⟨none,.bT 2 .bO (.t 7)⟩])) .ret)))
def PJ:∀{rows:List (List X)},ek rows=true->X.clean.bw rows=true
  |[],_=>rfl
  |e::l,h=>by
    simp only[ek,av,sI] at h
    have h1:X.clean.cD e=true:=by
      have h2:=h.1;clear h;induction e with
      |nil=>rfl
      |cons x e ih=>have hx:=h2 x (bE ..);have he:=ih λy hy=>h2 y (cI _ hy);cases x<;>simp_all[scalar,X.clean.cD,X.clean]
    simp only[X.clean.bw,h1,PJ h.2,Bool.and_self]
def YQ[Bs]{P:Program}{f:FuncId}{z bytes:Nat}(hT:Told P f (s6 z bytes) [.t 2] 1){rows:List (List X)}(h1:rows.length*bytes<=140737488355328)(h2:ek rows=true)(h4:gO rows=true\/rows=[]):
    AC P f [.row .af z rows] λr ps=>r=.row .own z rows/\ps=[.dead]:=by
  refine hT.ac rfl ?_;have h3:=MQ h2;have h5:=PJ h2;simp[s6,eV,kJ,qS,aR,base,Ends,h1,h3,h5];intro h6;rcases h4 with h4|h4;· rw[h4] at h6;cases h6
  · subst h4;simp
def gu(f0 z bytes:Nat):ct:=λf xs=>if f=f0 then (match xs with
  |[.row .af z' rows]=>if z'=z/\rows.length*bytes<=140737488355328/\ek rows=true/\(gO rows=true\/rows=[]) then some (.row .own z rows,[.dead]) else none
  |_=>none) else none
def Ay[Bs]{P:Program}{f0 z bytes:Nat}(hT:Told P f0 (s6 z bytes) [.t 2] 1):(gu f0 z bytes).Sound P:=λf xs o h=>by
  unfold gu at h;split at h
  · rename_i hf
    subst hf
    split at h
    · split at h
      · rename_i hc
        obtain⟨rfl,c1,c2,c3⟩:=hc
        cases h
        exact YQ hT c1 c2 c3
      · cases h
    · cases h
  · cases h
def dP(L L':ct):ct:=λf xs=>match L f xs with
  |some o=>some o
  |none=>L' f xs
def lf[Bs]{P:Program}{L L':ct}(h:L.Sound P)(h':L'.Sound P):(dP L L').Sound P:=λf xs o e=>by
  unfold dP at e;split at e
  · rename_i o' e'
    cases e
    exact h f xs _ e'
  · exact h' f xs _ e
end M
set_option linter.unusedVariables false
set_option linter.unusedSimpArgs false
namespace M
open Go
def sv:X->Value
  |.int k n=>.int k n
  |.bool b=>.bool b
  |.str s=>.string s
  |_=>undef
def ahG{c:C}(h:scalar c.er=true):c.val=sv c.er:=by cases c<;>first|rfl|(simp[C.er,scalar] at h)
def Dq:X->Bool
  |.str s=>decide (s.size<=9223372036854775807)
  |x=>scalar x
def iy(f0:FuncId)(g:List X->Option X):ct:=λf xs=>if f=f0 then (match g xs with
  |some r=>if xs.all scalar=true/\Dq r=true then some (r,xs.map λ_=>.dead) else none
  |none=>none) else none
end M
set_option linter.unusedVariables false
set_option linter.unusedSimpArgs false
namespace M
open Go Go.Sort
def o9[B:Bs](w:World):Prop:=∀b,b<B.W0.heap.size->w.heap[b]?=B.W0.heap[b]?
def WE[Bs]{P:Program}{f:FuncId}{xs:List X}{r:X}(hx:∀x∈xs,scalar x=true)(hr:Dq r=true)
    (h:∀w,o9 w->Calls P f (xs.map sv).toArray w λe w'=>e=.returned (sv r)/\∃k os,w'=grow (w.drewN k) os):AC P f xs λr' ps=>r'=r/\ps=xs.map λ_=>.dead:=by
  intro w zl zb cs e hA iT;have hv:cs.map C.val=xs.map sv:=by rw[<-e,cM];exact cv λc hc=>ahG (hx _ (e▸kA hc))
  rw[hv];refine(h w λb hb=>(iT b hb).1).mono λe' w' ⟨he,k,os,hw⟩=>?_;subst hw;have hsz:w.heap.size<=(grow (w.drewN k) os).heap.size:=by simp[grow,World.drewN]
  have hs:∃c:C,c.er=r/\c.val=sv r/\c.ok (grow (w.drewN k) os) (Zf zl λ_ _=>False)/\c.bare/\∀b k,¬c.fp b k:=by
    cases r with
    |int k n=>exact⟨.int k n,rfl,rfl,trivial,trivial,λ_ _ h=>h⟩
    |bool b=>exact⟨.bool b,rfl,rfl,trivial,trivial,λ_ _ h=>h⟩
    |str s=>exact⟨.str s,rfl,rfl,by simp[Dq] at hr;exact hr,trivial,λ_ _ h=>h⟩
    |_=>simp[Dq,scalar] at hr
  obtain⟨c,c1,c2,c3,c4,c5⟩:=hs;have Bb:Ext (λb k=>∃x∈cs,x.fp b k) w (grow (w.drewN k) os):=⟨rfl,rfl,rfl,hsz,λb hb=>.inl (by show (w.heap++os)[b]?=w.heap[b]?;exact N4 hb)⟩
  refine⟨c,cs.map λx=>.dead x.val,zl,⟨by rw[he,c2],by rw[cM];rfl,Bb,⟨λx hx'=>?_,λx hx'=>?_,λx hx' b k hf=>?_,λb k hz=>jd (hA.cC b k (hz.imp id λh=>h.elim)) hsz,?_⟩,λx hx' b k hf=>?_,λ_ _ h=>h,λ_ _ h=>.inl h⟩,c1,?_⟩
  · rcases bM.1 hx' with rfl|hx'
    · exact c3
    · obtain⟨y,_,rfl⟩:=aY.1 hx';trivial
  · rcases bM.1 hx' with rfl|hx'
    · exact c4
    · obtain⟨y,_,rfl⟩:=aY.1 hx';trivial
  · rcases bM.1 hx' with rfl|hx'
    · exact(c5 b k hf).elim
    · obtain⟨y,_,rfl⟩:=aY.1 hx';exact hf.elim
  · refine ew.2 ⟨λx _ b k hf=>(c5 b k hf).elim,?_⟩
    refine lB.2 λi j hi hj _ b k hf=>?_
    obtain⟨y,_,hy⟩:=aY.1 (cB hi)
    rw[<-hy] at hf
    exact hf.elim
  · rcases bM.1 hx' with rfl|hx'
    · exact(c5 b k hf).elim
    · obtain⟨y,_,rfl⟩:=aY.1 hx';exact hf.elim
  · rw[<-e]
    simp[cM,zS,C.er]
def ach[Bs]{P:Program}{f0:FuncId}{g:List X->Option X}(h:∀xs r,g xs=some r->∀w,o9 w->Calls P f0 (xs.map sv).toArray w λe w'=>e=.returned (sv r)/\∃k os,w'=grow (w.drewN k) os):(iy f0 g).Sound P:=λf xs o e=>by
  unfold iy at e;split at e
  · rename_i hf
    subst hf
    split at e
    · rename_i r hr
      split at e
      · rename_i hc
        cases e
        exact WE (sI.1 hc.1) hc.2 (h xs r hr)
      · cases e
    · cases e
  · cases e
def TabIs.same[B:Bs]{P:Program}{w:World}{n:String}{k:IntKind}{zs:List Int}(h:Lib.TabIs P B.W0 n k zs)(hw:o9 w):Lib.TabIs P w n k zs:=by
  unfold Lib.TabIs World.var? at h⊢;cases hg:P.globalNamed n with
  |none=>rw[hg] at h;cases h
  |some g=>
    rw[hg] at h;simp only[jC] at h⊢
    have hlt:g<B.W0.heap.size:=by
      rcases gb g B.W0.heap.size with h'|h';· exact h'
      · rw[jW h'] at h;cases h
    rw[hw g hlt];exact h
def ahH{P:Program}{W:World}{name:String}{k:IntKind}{zs:List Int}{g:Nat}{t e:TypeId}{n:Nat}
    (hg:P.globalNamed name=some g)(hty:(P.globals[g]?).map (·.type)=some t)(ht:P.underlying t=some (.array n e))(he:P.underlying e=some (.int k))(hce:P.cellsOf e=1)(hct:P.cellsOf t=n):
    ∀{l:List (String×DataW Unit)} {ps:List MemPlace},DataW.LaidVars P W l ps->(name,Lib.tabData k zs)∈l->Lib.TabIs P W name k zs
  |[],_,_,h=>by cases h
  |(nm,d)::l,ps,h,hm=>by
    obtain⟨g',t',cs,fuel,p,q,hg',ht',hvar,hd,hr,_⟩:=h;rcases bM.1 hm with hm|hm
    · obtain⟨rfl,rfl⟩:=DO hm
      obtain rfl:=iC (hg.symm.trans hg')
      obtain rfl:=iC (hty.symm.trans ht')
      unfold Lib.TabIs
      rw[hvar,<-Lib.cells_of_tab ht he hce hct hd]
    · exact ahH hg hty ht he hce hct hr hm
end M
set_option linter.unusedVariables false
set_option linter.unusedSimpArgs false
namespace M
open Go
def lv:Ex×ag->cK
  |(.normal,_)=>none
  |(.ret,s)=>some (.ret,s)
  |(.exit i,s)=>some (.exit i,s)
def uo{β γ:Type}(go:β->γ->γ ⊕ (Ex×ag)):List β->γ->γ ⊕ (Ex×ag)
  |[],g=>.inl g
  |b::l,g=>match go b g with
    |.inl g'=>uo go l g'
    |.inr o=>.inr o
def SE{xt:Nat}{β γ:Type}{f:ag->cK}(l:List β)(st:Nat->γ->ag)(go:β->γ->γ ⊕ (Ex×ag))(E:γ->ag)(Inv:Nat->γ->Prop)(g:γ)(h0:Inv 0 g)
    (h:∀i b g,l[i]?=some b->i<l.length->Inv i g->f (st i g)=(match go b g with|.inl g'=>some (.normal,st (i+1) g')|.inr o=>lv o))
    (hI:∀i b g g',l[i]?=some b->Inv i g->go b g=.inl g'->Inv (i+1) g')
    (hend:∀g,Inv l.length g->f (st l.length g)=some (.exit xt,E g)):
    bh f (st 0 g)=match uo go l g with|.inl g'=>some (.exit xt,E g')|.inr o=>lv o:=by
  suffices H:∀(r:List β) (i:Nat) (g:γ),Inv i g->l.drop i=r->i<=l.length->bh f (st i g)=match uo go r g with|.inl g'=>some (.exit xt,E g')|.inr o=>lv o from H l 0 g h0 rfl (uA _)
  intro r;induction r with
  |nil=>
    intro i g hi hr hl;have:i=l.length:=by have:=dB List.length hr;simp at this;omega
    subst this;rw[fm,hend g hi];rfl
  |cons b r ih=>
    intro i g hi hr hl
    have hlt:i<l.length:=by
      rcases gb i l.length with h|h;· exact h
      · rw[N2 h] at hr;cases hr
    have hb:l[i]?=some b:=by have:=o7 hlt;rw[hr] at this;rw[cr hlt];cases this;rfl
    have hr':l.drop (i+1)=r:=by have:=o7 hlt;rw[hr] at this;cases this;rfl
    rw[fm,h i b g hb hlt hi];unfold uo;cases hg:go b g with
    |inl g'=>exact ih (i+1) g' (hI i b g g' hb hi hg) hr' hlt
    |inr o=>obtain⟨e,s⟩:=o;cases e<;>simp[ga,lv]
def bq{α:Type}(p:α->Bool)(l:List α):Bool:=l.all p
def gj{α:Type}{p:α->Bool}{l:List α}:bq p l=true↔∀x∈l,p x=true:=sI
def iX{xt:Nat}{β:Type}{f:ag->cK}(l:List β)(st:Nat->ag)(p:β->Bool)(R E:ag)
    (h:∀i b,l[i]?=some b->i<l.length->f (st i)=if p b=true then some (.normal,st (i+1)) else some (.ret,R))
    (hend:f (st l.length)=some (.exit xt,E)):
    bh f (st 0)=if bq p l=true then some (.exit xt,E) else some (.ret,R):=by
  show _=if l.all p=true then _ else _
  have H:=SE (f:=f) l (λi (_:Unit)=>st i) (λb _=>if p b=true then .inl () else .inr (.ret,R)) (λ_=>E) (λ_ _=>True) () trivial
    (λi b g hb hl _=>by rw[h i b hb hl];by_cases hp:p b=true<;>simp[hp,lv]) (λ_ _ _ _ _ _ _=>trivial) λ_ _=>hend
  refine H.trans ?_
  have:∀r:List β,uo (λb (_:Unit)=>if p b=true then .inl () else .inr (Ex.ret,R)) r ()=if r.all p=true then .inl () else .inr (.ret,R):=by
    intro r;induction r with
    |nil=>rfl
    |cons b r ih=>
      simp only[uo];by_cases hp:p b=true;· simp[hp,ih]
      · simp[hp]
  rw[this];by_cases hp:l.all p=true<;>simp[hp,lv]
def G4{xt:Nat}{β γ:Type}{f:ag->cK}(l:List β)(st:Nat->γ->ag)(go:γ->β->γ)(E:γ->ag)(Inv:Nat->γ->Prop)(g:γ)(h0:Inv 0 g)
    (h:∀i b g,l[i]?=some b->i<l.length->Inv i g->f (st i g)=some (.normal,st (i+1) (go g b)))
    (hI:∀i b g,l[i]?=some b->Inv i g->Inv (i+1) (go g b))
    (hend:∀g,Inv l.length g->f (st l.length g)=some (.exit xt,E g)):
    bh f (st 0 g)=some (.exit xt,E (l.foldl go g)):=by
  refine(SE (f:=f) l st (λb g=>.inl (go g b)) E Inv g h0 h (λi b g g' hb hi e=>by cases e;exact hI i b g hb hi) hend).trans ?_
  have:∀(r:List β) (g:γ),uo (λb g=>.inl (go g b)) r g=(.inl (r.foldl go g):γ ⊕ (Ex×ag)):=by
    intro r;induction r with
    |nil=>intro g;rfl
    |cons b r ih=>intro g;simp only[uo,qJ];exact ih _
  rw[this]
def aex{xt:Nat}{β:Type}{f:ag->cK}(l:List β)(st:Nat->ag)(E:ag)
    (h:∀i b,l[i]?=some b->i<l.length->f (st i)=some (.normal,st (i+1)))
    (hend:f (st l.length)=some (.exit xt,E)):bh f (st 0)=some (.exit xt,E):=
  G4 l (λi (_:Unit)=>st i) (λ_ _=>()) (λ_=>E) (λ_ _=>True) () trivial (λi b _ hb hl _=>h i b hb hl) (λ_ _ _ _ _=>trivial) λ_ _=>hend
def dz{n:Int}(h1:-9223372036854775808<=n)(h2:n<=9223372036854775807):IntKind.i64.wrap n=n:=by simp only[IntKind.wrap,IntKind.signed,IntKind.bits,Bool.true_and,bx];split<;>rename_i h<;>simp at h<;>omega
def bY(n:Nat)(h:n<9223372036854775807):IntKind.i64.wrap (↑n+1)=↑n+1:=dz (by omega) (by omega)
attribute [simp] base HJ iA look HG zy Ma Er He Di k9 iN
abbrev ah:=List UInt8
@[simp] def aop(s:ah):ByteArray.size ⟨s.toArray⟩=s.length:=by simp[ByteArray.size]
@[simp] def str_inj(s t:ah):((⟨s.toArray⟩:ByteArray)=⟨t.toArray⟩)↔s=t:=by
  constructor
  · intro h
    injection h with h
    simpa using dB Array.toList h
  · rintro rfl;rfl
def sn(s t:ah):(⟨s.toArray⟩:ByteArray)++⟨t.toArray⟩=⟨(s++t).toArray⟩:=by apply ByteArray.ext;rw[ByteArray.data_append];simp
@[simp] def eS(s:ah):List X:=[.str ⟨s.toArray⟩]
structure Wr where
  at_:Int
  text:ah
  deriving DecidableEq
structure bR where
  cells:List ah
  pending:List Wr
  deriving DecidableEq
@[simp] def eW(w:Wr):List X:=[.int .i64 w.at_,.str ⟨w.text.toArray⟩]
@[simp] def gw(m:Md)(d:bR):List X:=[.row m 1 (d.cells.map eS),.row m 2 (d.pending.map eW)]
@[simp] def anY(m:Md)(l:List ah):X.cl m (l.map eS)=l.map eS:=by induction l<;>simp_all[X.cl,X.dU,X.md]
@[simp] def an2(m:Md)(l:List Wr):X.cl m (l.map eW)=l.map eW:=by induction l<;>simp_all[X.cl,X.dU,X.md]
@[simp] def alI(l:List ah):X.clean.bw (l.map eS)=true:=by induction l<;>simp_all[X.clean.bw,X.clean.cD,X.clean]
@[simp] def alM(l:List Wr):X.clean.bw (l.map eW)=true:=by induction l<;>simp_all[X.clean.bw,X.clean.cD,X.clean]
def aeP{α β:Type}(l:List α)(e:α->β)(z:β)(g:β->β){i:Nat}(hi:i<l.length)(hg:g z=e l[i]):
    ((l.take i).map e++List.replicate (l.length - i) z).modify i g=(l.take (i+1)).map e++List.replicate (l.length - (i+1)) z:=by
  apply iE;intro j;rw[wV];rcases Nat.lt_trichotomy j i with h|h|h
  · rw[qK (by simp;omega),qK (by simp;omega)]
    simp only[cV,Od,aq h,aq (Nat.lt_succ_of_lt h),ay (Nat.ne_of_gt h)]
    cases l[j]?<;>rfl
  · subst h
    rw[nN (by simp;omega),qK (by simp;omega)]
    have:j - ((l.take j).map e).length=0:=by simp;omega
    rw[this,Vs (by omega)]
    simp only[cV,Od,aq (Nat.lt_succ_self j),cr hi,eN,cG,<-hg]
    rfl
  · rw[nN (by simp;omega),nN (by simp;omega)]
    have h1:j - ((l.take i).map e).length=j - i:=by simp;omega
    have h2:j - ((l.take (i+1)).map e).length=j - (i+1):=by simp;omega
    rw[h1,h2,Oc,Oc]
    by_cases h3:j<l.length
    · rw[aq (by omega),aq (by omega)]
      simp only[Nat.ne_of_lt h,iD]
      rfl
    · rw[ay (by omega),ay (by omega)]
      rfl
def lI(rows:List (List X))(i:Nat)(z:List X):List (List X):=rows.take i++List.replicate (rows.length - i) z
@[simp] def amI(rows:List (List X))(i:Nat)(z:List X):(lI rows i z).length=rows.length:=by simp[lI];omega
@[simp] def Zx(rows:List (List X))(i:Nat)(z:List X)(h:i<rows.length):(lI rows i z)[i]?=some z:=by unfold lI;rw[nN (by simp;omega),Vs (by simp;omega)]
@[simp] def amH(rows:List (List X))(i:Nat)(z:List X)(h:i<(lI rows i z).length):(lI rows i z)[i]=z:=by
  have h':i<rows.length:=by simpa using h
  have:=Zx rows i z h';rw[cr h] at this;exact iC this
@[simp] def amK(rows:List (List X))(z:List X):lI rows 0 z=List.replicate rows.length z:=by simp[lI]
@[simp] def amG(rows:List (List X))(i:Nat)(z:List X)(h:i=rows.length):lI rows i z=rows:=by subst h;simp[lI]
@[simp] def amJ(rows:List (List X))(i:Nat)(z:List X)(g:List X->List X)(h:i<rows.length)(hg:g z=rows[i]):(lI rows i z).modify i g=lI rows (i+1) z:=by have:=aeP rows id z g h (by simpa using hg);simpa [lI] using this
def Iw{α β:Type}:∀{a:List α} {b:List β},a.length=b.length->∃ps:List (α×β),a=ps.map Prod.fst/\b=ps.map Prod.snd
  |[],[],_=>⟨[],rfl,rfl⟩
  |x::a,y::b,h=>by obtain⟨ps,h1,h2⟩:=Iw (a:=a) (b:=b) (by simpa using h);exact⟨(x,y)::ps,by simp[<-h1],by simp[<-h2]⟩
  |[],_::_,h=>by cases h
  |_::_,[],h=>by cases h
def kN{α:Type}[DecidableEq α](x:α×α):Bool:=decide (x.1=x.2)
def Ea{α:Type}[DecidableEq α]:∀ps:List (α×α),bq kN ps=decide (ps.map Prod.fst=ps.map Prod.snd)
  |[]=>rfl
  |x::ps=>by have:=Ea ps;unfold bq at this⊢;simp only[List.all_cons,this,kN,bC,nM];exact(Bool.decide_and ..).symm
def aey{xt:Nat}{β:Type}{f:ag->cK}(l:List β)(st:Int->ag)(p:β->Bool)(R:β->ag)(E:ag)
    (h:∀(i:Nat) b,l[i]?=some b->i<l.length->f (st i)=if p b=true then some (.ret,R b) else some (.normal,st (i - 1)))
    (hend:f (st (-1))=some (.exit xt,E)):
    bh f (st (l.length - 1))=(l.reverse.find? p).elim (some (.exit xt,E)) (λb=>some (.ret,R b)):=by
  suffices H:∀k,k<=l.length->bh f (st ((k:Int) - 1))=((l.take k).reverse.find? p).elim (some (.exit xt,E)) (λb=>some (.ret,R b)) by have:=H l.length (dc _);rwa [qG] at this
  intro k;induction k with
  |zero=>intro _;rw[fm];simp[hend]
  |succ k ih=>
    intro hk;have hb:l[k]?=some l[k]:=cr hk;have e:((k+1:Nat):Int) - 1=(k:Int):=by omega
    rw[e,fm,h k _ hb hk,List.take_add_one,hb];simp only[Option.toList_some,Vj,NN,List.reverse_nil,kB,Vl,List.find?_cons];by_cases hp:p l[k]=true;· simp[hp]
    · simp only[hp,iP,iD,ahM]
      exact ih (by omega)
def dX(d:bR)(a:Int):ah:=d.pending.foldl (λout w=>if w.at_=a then w.text else out) (d.cells.getD a.toNat [])
def JX(a:Int):∀(l:List Wr) (x:ah),l.foldl (λout w=>if w.at_=a then w.text else out) x=(l.reverse.find? (λw=>decide (w.at_=a))).elim x Wr.text
  |[],x=>rfl
  |w::l,x=>by
    rw[qJ,JX a l,NN,List.find?_append];cases l.reverse.find? (λw=>decide (w.at_=a)) with
    |some v=>rfl
    |none=>by_cases h:w.at_=a<;>simp[h]
def pI(new old:List (List X))(i:Nat):List (List X):=new.take i++old.drop i
@[simp] def Qv(new old:List (List X))(i:Nat)(h:new.length=old.length):(pI new old i).length=old.length:=by simp[pI];omega
@[simp] def Zw(new old:List (List X))(i:Nat)(h:new.length=old.length)(hi:i<old.length):(pI new old i)[i]?=old[i]?:=by unfold pI;rw[nN (by simp;omega),zV];congr 1;simp;omega
@[simp] def amE(new old:List (List X))(i:Nat)(hl:i<(pI new old i).length)(h:new.length=old.length):(pI new old i)[i]=old[i]'(by rw[Qv _ _ _ h] at hl;exact hl):=by
  have hi:i<old.length:=by rw[Qv _ _ _ h] at hl;exact hl
  have:=Zw new old i h hi;rw[cr hl,cr hi] at this;exact iC this
@[simp] def amF(new old:List (List X)):pI new old 0=old:=by simp[pI]
@[simp] def amD(new old:List (List X))(i:Nat)(h:new.length=old.length)(hi:i=old.length):pI new old i=new:=by subst hi;rw[<-h];simp[pI];omega
def SL(n:Nat)(out:ah):ah:=if h:n=0 then out else SL (n / 10) (UInt8.ofNat (48+n%10)::out)
termination_by n
decreasing_by omega
def CU(k:Int):ah:=if k<=0 then [109,48] else 109::SL k.toNat []
def CV(n:Nat)(k:Int):List ah:=(List.range n).map λ(i:Nat)=>CU (k+i)
def CW(n:Nat)(k:Int):List Wr:=(List.range n).map λ(i:Nat)=>⟨k+2*i,CU (k+2*i+1)⟩
@[simp] def anI(n:Nat)(k:Int):(CV n k).length=n:=by simp[CV]
@[simp] def anK(n:Nat)(k:Int):(CW n k).length=n:=by simp[CW]
@[simp] def anH(n:Nat)(k:Int)(i:Nat)(h:i<(CV n k).length):(CV n k)[i]=CU (k+i):=by simp[CV]
@[simp] def anJ(n:Nat)(k:Int)(i:Nat)(h:i<(CW n k).length):(CW n k)[i]=⟨k+2*i,CU (k+2*i+1)⟩:=by simp[CW]
def foldI{β γ:Type}(go:Nat->γ->β->γ):Nat->List β->γ->γ
  |_,[],g=>g
  |i,b::l,g=>foldI go (i+1) l (go i g b)
def nu{xt:Nat}{β γ:Type}{f:ag->cK}(l:List β)(st:Nat->γ->ag)(go:Nat->γ->β->γ)(E:γ->ag)(Inv:Nat->γ->Prop)(g:γ)(h0:Inv 0 g)
    (h:∀i b g,l[i]?=some b->i<l.length->Inv i g->f (st i g)=some (.normal,st (i+1) (go i g b)))
    (hI:∀i b g,l[i]?=some b->Inv i g->Inv (i+1) (go i g b))
    (hend:∀g,Inv l.length g->f (st l.length g)=some (.exit xt,E g)):
    bh f (st 0 g)=some (.exit xt,E (foldI go 0 l g)):=by
  suffices H:∀(r:List β) (i:Nat) (g:γ),Inv i g->l.drop i=r->i<=l.length->bh f (st i g)=some (.exit xt,E (foldI go i r g)) from H l 0 g h0 rfl (uA _)
  intro r;induction r with
  |nil=>
    intro i g hi hr hl;have:i=l.length:=by have:=dB List.length hr;simp at this;omega
    subst this;rw[fm,hend g hi];rfl
  |cons b r ih=>
    intro i g hi hr hl
    have hlt:i<l.length:=by
      rcases gb i l.length with h|h;· exact h
      · rw[N2 h] at hr;cases hr
    have hd:=o7 hlt;rw[hr] at hd;have hb:l[i]?=some b:=by rw[cr hlt];cases hd;rfl
    have hr':l.drop (i+1)=r:=by cases hd;rfl
    rw[fm,h i b g hb hlt hi];exact ih (i+1) _ (hI i b g hb hi) hr' hlt
def kn(k:Nat->Bool)(i:Nat)(cs:List ah)(w:Wr):List ah:=if k i=true then cs.set w.at_.toNat w.text else cs
def rR(k:Nat->Bool)(cs:List ah)(ws:List Wr):List ah:=foldI (kn k) 0 ws cs
def L6(k:Nat->Bool)(i:Nat)(cs:List ah)(w:Wr):(kn k i cs w).length=cs.length:=by unfold kn;split<;>simp
def QX(k:Nat->Bool):∀(ws:List Wr) (i:Nat) (cs:List ah),(foldI (kn k) i ws cs).length=cs.length
  |[],_,_=>rfl
  |w::ws,i,cs=>by rw[foldI,QX k ws,L6]
def Sn(k:Nat->Bool)(cs:List ah)(ws:List Wr):(rR k cs ws).length=cs.length:=QX k ws 0 cs
@[simp] def an3(cs:List ah)(n:Nat)(t:ah):(cs.map eS).modify n (λx=>x.set 0 (X.str ⟨t.toArray⟩))=(cs.set n t).map eS:=by
  apply iE;intro j;rw[wV,cV,cV,sL];by_cases h:n=j
  · subst h
    simp only[eN]
    by_cases h2:n<cs.length
    · simp[h2]
    · simp[h2,jD (Nat.le_of_not_lt h2)]
  · simp only[h,iD]
    cases cs[j]?<;>rfl
def kj(keep:List Bool)(all:Bool)(i:Nat):Bool:=all||keep.getD i false
@[simp] def eB(b:Bool):List X:=[.bool b]
@[simp] def anM(m:Md)(l:List Bool):X.cl m (l.map eB)=l.map eB:=by induction l<;>simp_all[X.cl,X.dU,X.md]
@[simp] def alx(l:List Bool):X.clean.bw (l.map eB)=true:=by induction l<;>simp_all[X.clean.bw,X.clean.cD,X.clean]
def ahb(l:List ah):ek (l.map eS)=true:=by induction l<;>simp_all[ek,scalar]
def ahc(l:List Wr):ek (l.map eW)=true:=by induction l<;>simp_all[ek,scalar]
attribute [simp] ahb ahc
@[simp] def alw(a b:List (List X)):X.clean.bw (a++b)=(X.clean.bw a && X.clean.bw b):=by
  induction a with
  |nil=>simp[X.clean.bw]
  |cons e a ih=>simp[X.clean.bw,ih,Bool.and_assoc]
@[simp] def anL(m:Md)(a b:List (List X)):X.cl m (a++b)=X.cl m a++X.cl m b:=by
  induction a with
  |nil=>simp[X.cl]
  |cons e a ih=>simp[X.cl,ih]
structure qO where
  code:List UInt8
  i:Nat
  h:Int
  hi:i<=code.length
  hl:code.length<=9223372036854775807
@[simp] def eU(b:UInt8):List X:=[.int .u8 (b.toNat:Int)]
@[simp] def an1(m:Md)(l:List UInt8):X.cl m (l.map eU)=l.map eU:=by induction l<;>simp_all[X.cl,X.dU,X.md]
@[simp] def alL(l:List UInt8):X.clean.bw (l.map eU)=true:=by induction l<;>simp_all[X.clean.bw,X.clean.cD,X.clean]
def kM(c:qO):List X:=[.row .sl 1 (c.code.map eU),.int .i64 c.i,.int .i64 c.h]
@[simp] def amf(c:qO):(kM c).length=3:=rfl
@[simp] def amh(c:qO):(kM c).take 3=kM c:=rfl
@[simp] def amc(c:qO):(kM c).drop 3=[]:=rfl
@[simp] def amg(ks:List Nat)(c:qO):X.qu ks (kM c)=kM c:=rfl
@[simp] def amd(r:Nat)(p:Path)(c:qO):X.gI r p (kM c)=kM c:=rfl
@[simp] def ame(r:Nat)(p:Path)(c:qO):X.rQ r p (kM c)=kM c:=rfl
@[simp] def amb(c:qO):X.clean.cD (kM c)=true:=by simp[kM,X.clean.cD,X.clean]
@[simp] def ama(c:qO):X.bare.jj (kM c)=true:=by simp[kM,X.bare.jj,X.bare]
end M
set_option linter.unusedVariables false
set_option linter.unusedSimpArgs false
namespace M
open Go Go.RowKit
inductive Ty where
  |int (k:IntKind)
  |bool
  |str
  |row (ts:List Ty)
inductive jg:Ty->X->Prop
  |int {k n}:(Lit.int k n).wf=true->jg (.int k) (.int k n)
  |bool {b}:jg .bool (.bool b)
  |str {s:ByteArray}:s.size<=maxLen->jg .str (.str s)
  |row {ts xs}:xs.length<=maxLen->(∀r:List X,r∈xs->r.length=ts.length)->(∀(r:List X),r∈xs->∀(j:Nat) ty x,ts[j]?=some ty->r[j]?=some x->jg ty x)->jg (.row ts) (.row .sl ts.length xs)
structure DY (w:World) (ty:Ty) (c:C):Prop where
  cell:c.cell
  cN:c.cN
  fits:c.fits .sl
  ok:c.ok w (Zf (λb _=>b<w.heap.size) λ_ _=>False)
  fp:∀b k,¬c.fp b k
  Az:jg ty c.er
def lK(w:World):List Ty->List Value->List C->Prop
  |[],[],[]=>True
  |ty::ts,v::vs,c::cs=>c.val=v/\DY w ty c/\lK w ts vs cs
  |_,_,_=>False
def Rb{w:World}:∀{ts:List Ty} {vs:List Value} {cs:List C} {ts':List Ty} {vs':List Value} {cs':List C},lK w ts vs cs->lK w ts' vs' cs'->lK w (ts++ts') (vs++vs') (cs++cs')
  |[],[],[],_,_,_,_,h=>h
  |_::_,_::_,_::_,_,_,_,⟨h1,h2,h3⟩,h=>⟨h1,h2,Rb h3 h⟩
def Rc{w:World}:∀{ts:List Ty} {vs:List Value} {cs:List C},lK w ts vs cs->vs.length=ts.length/\cs.length=ts.length/\vs=cs.map C.val
  |[],[],[],_=>⟨rfl,rfl,rfl⟩
  |_::_,_::_,_::_,⟨h1,h2,h3⟩=>by obtain⟨e1,e2,e3⟩:=Rc h3;exact⟨by simp[e1],by simp[e2],by simp[h1,<-e3]⟩
def J4{w:World}:∀{ts:List Ty} {vs:List Value} {cs:List C},lK w ts vs cs->∀{j:Nat},j<ts.length->∃ty c,ts[j]?=some ty/\cs[j]?=some c/\vs[j]?=some c.val/\DY w ty c
  |ty::ts,v::vs,c::cs,⟨h1,h2,h3⟩,0,_=>⟨ty,c,rfl,rfl,by simp[h1],h2⟩
  |ty::ts,v::vs,c::cs,⟨h1,h2,h3⟩,j+1,h=>by obtain⟨ty,c,a1,a2,a3,a4⟩:=J4 h3 (j:=j) (by simpa using h);exact⟨ty,c,by simpa using a1,by simpa using a2,by simpa using a3,a4⟩
def zJ(P:Program)(r:TypeId->Option (List Ty)):Nat->List Field->Option (List Ty)
  |_,[]=>some []
  |o,f::fs=>if f.offset=o then (r f.type).bind λts=>if ts.length=P.cellsOf f.type then (zJ P r (o+ts.length) fs).map (ts++·) else none else none
def jz(P:Program):Nat->Bool->TypeId->Option (List Ty)
  |0,_,_=>none
  |n+1,deep,t=>match P.underlying t with
    |some .bool=>some [.bool]
    |some (.int k)=>some [.int k]
    |some .string=>some [.str]
    |some (.slice e)=>if deep then (jz P n true e).bind λts=>if ts.length=P.cellsOf e/\0<P.cellsOf e then some [.row ts] else none else none
    |some (.struct fs)=>(zJ P (jz P n deep) 0 fs.toList).bind λts=>if ts.length=P.cellsOf t then some ts else none
    |_=>none
section
variable {H:Type}{enc:TypeId×Value->H}{P:Program}{w:World}{sp:Nat->Bool}{held:Bool}
def Uv{r:TypeId->Option (List Ty)}{cs:List Value}
    (hr:∀t ts fuel cs' x,r t=some ts->DataW.trod enc P w 0 sp held fuel t cs'=some x->(∀v∈cs',v∈cs)->∃Cs,lK w ts cs' Cs):
    ∀(fs:List Field) (o:Nat) (ts:List Ty),zJ P r o fs=some ts->(∀f∈fs,∃fuel x,DataW.trod enc P w 0 sp held fuel f.type ((cs.drop f.offset).take (P.cellsOf f.type))=some x)->
      ∃Cs,lK w ts ((cs.drop o).take ts.length) Cs
  |[],o,ts,h,_=>by cases h;exact⟨[],by simp[lK]⟩
  |f::fs,o,ts,h,hx=>by
    simp only[zJ] at h;split at h
    · rename_i ho
      simp only[mG] at h
      obtain⟨t1,h1,h⟩:=h
      split at h
      · rename_i hl
        simp only[lD] at h
        obtain⟨t2,h2,rfl⟩:=h
        obtain⟨fuel,x,hf⟩:=hx f (bE ..)
        obtain⟨C1,g1⟩:=hr _ _ _ _ _ h1 hf λv hv=>Vh (NJ hv)
        obtain⟨C2,g2⟩:=Uv hr fs _ _ h2 λf hf=>hx f (cI _ hf)
        refine⟨C1++C2,?_⟩
        rw[gT,List.take_add,List.drop_drop]
        rw[ho,<-hl] at g1
        exact Rb g1 g2
      · cases h
    · cases h
def ahz{w:World}{g o n m:Nat}{spot:Option Nat}{vs:List Value}(hn:0<n)(h:w.cells? 0 ((⟨g,o,spot⟩:Addr).add (0*m)) n=some vs):spot=none:=by
  obtain⟨_,hl,e3⟩:=World.cells?_some h;have e4:=e3 0 hn;have:∃v,vs[0]?=some v:=⟨vs[0],cr (by omega)⟩;obtain⟨v,hv⟩:=this;rw[hv] at e4;have ha:((⟨g,o,spot⟩:Addr).add (0*m)).add 0=⟨g,o,spot⟩:=by simp[Addr.add]
  rw[ha] at e4;unfold World.cell? at e4;cases spot with
  |none=>rfl
  |some k=>
    split at e4;· simp at e4
    · cases e4
def trod_good:∀(n:Nat) (deep:Bool) (t:TypeId) (ts:List Ty),jz P n deep t=some ts->∀(fuel:Nat) (cs:List Value) (x:DataW H×List MemPlace),DataW.trod enc P w 0 sp held fuel t cs=some x->∃Cs,lK w ts cs Cs
  |0,_,_,_,h,_,_,_,_=>by cases h
  |n+1,deep,t,ts,h,fuel,cs,x,hx=>by
    simp only[jz] at h;split at h
    · rename_i hu
      cases h
      obtain⟨b,rfl,rfl⟩:=DataW.trod_bool hu hx
      exact⟨[.bool b],rfl,⟨trivial,trivial,trivial,trivial,λ_ _ h=>h,.bool⟩,trivial⟩
    · rename_i k hu
      cases h
      obtain⟨m,rfl,rfl,hw⟩:=DataW.trod_int hu hx
      exact⟨[.int k m],rfl,⟨trivial,trivial,trivial,trivial,λ_ _ h=>h,.int hw⟩,trivial⟩
    · rename_i hu
      cases h
      obtain⟨s,rfl,rfl,hw⟩:=DataW.trod_string hu hx
      exact⟨[.str s],rfl,⟨trivial,trivial,trivial,hw,λ_ _ h=>h,.str hw⟩,trivial⟩
    · rename_i e hu
      split at h
      · rename_i hd
        simp only[mG] at h
        obtain⟨te,h1,h⟩:=h
        split at h
        · rename_i hl
          obtain⟨hl,hpos⟩:=hl
          cases h
          rcases DataW.trod_slice hu hx with ⟨rfl,rfl⟩|⟨a,len,cap,elems,rest,m,rfl,rfl,rfl,_,hlc,hcm,hel,lP,_,_⟩
          · refine⟨[.row .sl te.length none 0 0 λ_ _=>.dead undef],rfl,⟨trivial,trivial,.inr (.inl rfl),⟨dc _,λi j hi=>by omega,λi j hi=>by omega,λh=>(by cases h),λi j hi=>by omega⟩,λb k h=>(by cases h.1),?_⟩,trivial⟩
            exact jg.row (xs:=[]) (by simp) (λr hr=>by cases hr) (λr hr=>by cases hr)
          · obtain⟨g,o,spot⟩:=a
            by_cases hl0:len=0
            · subst hl0
              refine⟨[.row .sl te.length (some (g,o,spot)) 0 cap λ_ _=>.dead undef],rfl,⟨trivial,trivial,.inr (.inl rfl),⟨hlc,λi j hi=>by omega,λi j hi=>by omega,λh=>(by cases h),λi j hi=>by omega⟩,λb k h=>(by cases h.1),?_⟩,trivial⟩
              exact jg.row (xs:=[]) (by simp) (λr hr=>by cases hr) (λr hr=>by cases hr)
            have adK:spot=none:=by have:=lP 0 (by omega);rw[cr (by omega),mG] at this;obtain⟨vs,e1,e2⟩:=this;exact ahz hpos e1
            subst adK
            have hex:∀i,∃(vs:List Value) (l:List C),i<len->w.cells? 0 ((⟨g,o,none⟩:Addr).add (i*P.cellsOf e)) (P.cellsOf e)=some vs/\lK w te vs l:=λi=>by
              by_cases hi:i<len
              · have:=lP i hi
                rw[cr (by omega),mG] at this
                obtain⟨vs,e1,e2⟩:=this
                obtain⟨l,hl⟩:=trod_good n true _ _ h1 _ _ _ e2
                exact⟨vs,l,λ_=>⟨e1,hl⟩⟩
              · exact⟨[],[],λh=>(hi h).elim⟩
            let vs:=λi=>(hex i).choose
            let l:=λi=>(hex i).choose_spec.choose
            have hvl:∀i,i<len->w.cells? 0 ((⟨g,o,none⟩:Addr).add (i*P.cellsOf e)) (P.cellsOf e)=some (vs i)/\lK w te (vs i) (l i):=λi=>(hex i).choose_spec.choose_spec
            have hij:∀i j,i<len->j<te.length->∃ty,te[j]?=some ty/\(l i)[j]?=some ((l i).getD j (.dead undef))/\w.cell? ⟨g,o+i*te.length+j,none⟩=some ((l i).getD j (.dead undef)).val/\DY w ty ((l i).getD j (.dead undef)):=λi j hi hj=>by
              obtain⟨e1,e2⟩:=hvl i hi;obtain⟨ty,c,a1,a2,a3,a4⟩:=J4 e2 hj;have hc:(l i).getD j (.dead undef)=c:=by rw[lE,a2];rfl
              rw[hc];obtain⟨_,_,e3⟩:=World.cells?_some e1;have e4:=e3 j (by omega);rw[a3] at e4;refine⟨ty,a1,a2,?_,a4⟩;rw[<-e4];congr 1;rw[hl];unfold Addr.add;split<;>split<;>simp_all
            have hb:∀i j,i<len->j<te.length->g<w.heap.size:=λi j hi hj=>by obtain⟨_,_,_,h3,_⟩:=hij i j hi hj;exact World.block_lt_of_cell? w _ h3
            refine⟨[.row .sl te.length (some (g,o,none)) len cap λi j=>(l i).getD j (.dead undef)],rfl,⟨trivial,trivial,.inr (.inl rfl),⟨hlc,λi j hi hj=>⟨g,o,rfl,?_,λ_=>hb i j hi hj⟩,λi j hi hj=>?_,λh=>(by cases h),λi j hi hj b k hf=>?_⟩,λb k h=>(by cases h.1),?_⟩,trivial⟩
            · obtain⟨ty,_,_,h3,h4⟩:=hij i j hi hj
              exact h3
            · obtain⟨ty,_,_,h3,h4⟩:=hij i j hi hj
              exact⟨h4.cell,h4.cN,h4.fits,h4.ok⟩
            · obtain⟨ty,_,_,h3,h4⟩:=hij i j hi hj
              exact(h4.fp b k hf).elim
            · refine jg.row (by simpa using jB hlc hcm) (λr hr=>?_) λr hr j ty x hty KH=>?_
              · simp only[aY,oX] at hr
                obtain⟨i,_,rfl⟩:=hr
                simp
              · simp only[aY,oX] at hr
                obtain⟨i,hi,rfl⟩:=hr
                have hj:j<te.length:=by
                  rcases gb j te.length with h|h;· exact h
                  · rw[jD h] at hty;cases hty
                obtain⟨ty',e1,_,_,h4⟩:=hij i j hi hj
                rw[e1] at hty
                cases hty
                rw[cV,qL hj] at KH
                simp only[cG,dH] at KH
                subst KH
                exact h4.Az
        · cases h
      · cases h
    · rename_i fs hu
      simp only[mG] at h
      obtain⟨te,h1,h⟩:=h
      split at h
      · rename_i hl
        cases h
        obtain⟨xs,m,rfl,rfl,hcs,hxl,lP⟩:=DataW.trod_struct hu hx
        obtain⟨Cs,hC⟩:=Uv (cs:=cs) (λt ts' fuel cs' x hr ht hm=>trod_good n deep t ts' hr fuel cs' x ht) fs.toList 0 ts h1 λf hf=>by
          obtain⟨i,hi,rfl⟩:=nO hf;have hi':i<fs.size:=by simpa using hi
          have:=lP i (fs[i]) (by simp[hi']);rw[cr (by omega)] at this;exact⟨_,_,by simpa using this⟩
        refine⟨Cs,?_⟩
        rw[List.drop_zero,hl,<-hcs,qG] at hC
        exact hC
      · cases h
    · cases h
def Nf:∀(n:Nat) (deep:Bool) (t:TypeId) (ts:List Ty),jz P n deep t=some ts->∀(fuel:Nat) (cs:List Value) (x:DataW H×List MemPlace),DataW.trod enc P w 0 (λ_=>true) held fuel t cs=some x->DataW.trod enc P w 0 (λb=>decide (b<w.heap.size)) held fuel t cs=some x
  |0,_,_,_,h,_,_,_,_=>by cases h
  |n+1,deep,t,ts,h,0,cs,x,hx=>by simp[DataW.trod] at hx
  |n+1,deep,t,ts,h,fuel+1,cs,x,hx=>by
    simp only[jz] at h;split at h
    · rename_i hu
      obtain⟨b,rfl,rfl⟩:=DataW.trod_bool hu hx
      simp[DataW.trod,hu]
    · rename_i k hu
      obtain⟨m,rfl,rfl,hw⟩:=DataW.trod_int hu hx
      simp[DataW.trod,hu,hw]
    · rename_i hu
      obtain⟨s,rfl,rfl,hw⟩:=DataW.trod_string hu hx
      simp[DataW.trod,hu,hw]
    · rename_i e hu
      split at h
      · simp only[mG] at h
        obtain⟨te,h1,h⟩:=h
        split at h
        · rename_i hl
          obtain⟨hl,hpos⟩:=hl
          rcases DataW.trod_slice hu hx with ⟨rfl,rfl⟩|⟨a,len,cap,elems',rest',m,_,rfl,_⟩
          · simp[DataW.trod,hu]
          · unfold DataW.trod at hx⊢
            simp only[hu] at hx⊢
            split at hx
            · rename_i hc
              rw[aq hc]
              simp only[lD,mG,eN] at hx⊢
              obtain⟨elems,he,rest,vp,rfl⟩:=hx
              have one:∀(i:Nat) (y:DataW H×List MemPlace),(w.cells? 0 (a.add (i*P.cellsOf e)) (P.cellsOf e)).bind (DataW.trod enc P w 0 (λ_=>true) held fuel e)=some y->(w.cells? 0 (a.add (i*P.cellsOf e)) (P.cellsOf e)).bind (DataW.trod enc P w 0 (λb=>decide (b<w.heap.size)) held fuel e)=some y:=λi y hv=>by simp only[mG] at hv⊢;obtain⟨cs',ke,hy'⟩:=hv;exact⟨cs',ke,Nf n true _ _ h1 _ _ _ hy'⟩
              refine⟨elems,mapM_carry he λi y _ _ hv=>one i y hv,rest,?_,rfl⟩
              by_cases hb:a.block<w.heap.size
              · rw[aq (by simpa using hb)]
                exact mapM_carry vp λi y _ _ hv=>one (len+i) y hv
              · rw[ay (by simpa using hb)]
                have:cap - len=0:=by
                  rcases Nat.eq_zero_or_pos (cap - len) with h|h;· exact h
                  · have h0:=mapM_some_get vp 0 0 (by simp[h])
                    have hl':0<rest.length:=by have:=mapM_some_length vp;simp at this;omega
                    rw[cr hl',mG] at h0
                    obtain⟨vs,e1,_⟩:=h0
                    have:=World.cells?_block e1 hpos
                    refine(hb ?_).elim
                    unfold Addr.add at this
                    split at this<;>exact this
                rw[this] at vp
                exact vp
            · cases hx
        · cases h
      · cases h
    · rename_i fs hu
      simp only[mG] at h
      obtain⟨te,h1,h⟩:=h
      unfold DataW.trod at hx⊢
      simp only[hu] at hx⊢
      have each:∀(o:Nat) (l:List Field) (ts:List Ty),zJ P (jz P n deep) o l=some ts->∀f∈l,∃t1,jz P n deep f.type=some t1:=by
        intro o l;induction l generalizing o with
        |nil=>intro _ _ f hf;cases hf
        |cons f l ih=>
          intro ts h f' hf';simp only[zJ] at h;split at h
          · simp only[mG] at h
            obtain⟨t1,e1,h⟩:=h
            split at h
            · simp only[lD] at h
              obtain⟨t2,e2,_⟩:=h
              rcases bM.1 hf' with rfl|hf'
              · exact⟨t1,e1⟩
              · exact ih _ _ e2 f' hf'
            · cases h
          · cases h
      split at hx
      · rename_i hc
        rw[aq hc]
        simp only[lD] at hx⊢
        obtain⟨xs,hx,rfl⟩:=hx
        refine⟨xs,mapM_carry hx λf y hf _ hv=>?_,rfl⟩
        obtain⟨t1,e1⟩:=each _ _ _ h1 f hf
        exact Nf n deep _ _ e1 _ _ _ hv
      · cases hx
    · cases h
inductive nP where
  |one (ty:Ty)
  |agg (tys:List Ty)
inductive uG:nP->X->Prop
  |one {ty x}:jg ty x->uG (.one ty) x
  |agg {tys:List Ty} {l:List X}:l.length=tys.length->(∀(j:Nat) ty x,tys[j]?=some ty->l[j]?=some x->jg ty x)->uG (.agg tys) (.agg l)
def uI(P:Program)(t:TypeId):Option nP:=match P.underlying t with
  |some (.struct _)=>(jz P 20 true t).map .agg
  |some .bool=>some (.one .bool)
  |some (.int k)=>some (.one (.int k))
  |some .string=>some (.one .str)
  |some (.slice _)=>(jz P 20 true t).bind fun
    |[ty]=>some (.one ty)
    |_=>none
  |_=>none
def OO{c:C}(h1:c.cell)(h2:c.cN):c.bare:=by cases c<;>first|trivial|exact h2.elim
structure Ov (w:World) (a:nP) (v:Value) (c:C):Prop where
  val:c.val=v
  ok:c.ok w (Zf (λb _=>b<w.heap.size) λ_ _=>False)
  bare:c.bare
  fp:∀b k,¬c.fp b k
  Az:uG a c.er
def E0{ty:Ty}{cs:List Value}{Cs:List C}{v:Value}(h:lK w [ty] cs Cs)(e:cs=[v]):∃c,Ov w (.one ty) v c:=by
  subst e;match Cs,h with
  |[c],⟨h1,h2,_⟩=>exact⟨c,h1,h2.ok,OO h2.cell h2.cN,h2.fp,.one h2.Az⟩
def WV{r:Reach}{base:Nat}{t:TypeId}{v:Value}{d:DataW H}{p:List MemPlace}{a:nP}(ha:uI P t=some a)(hv:Value.okWide P w r base t v)(hd:DataW.Trod enc P w 0 sp held t v d p):∃c,Ov w a v c:=by
  obtain⟨fuel,hf⟩:=hd;unfold uI at ha;split at ha
  · rename_i fs hu
    simp only[lD] at ha
    obtain⟨ts,ht,rfl⟩:=ha
    unfold Value.okWide at hv
    rw[hu] at hv
    obtain⟨cs,rfl,_,ts',_,_,hcell⟩:=hv
    obtain⟨Cs,hC⟩:=trod_good _ _ _ _ ht _ _ _ hf
    obtain⟨l1,l2,l3⟩:=Rc hC
    have lP:∀j,j<Cs.length->∃ty,ts[j]?=some ty/\DY w ty (Cs.getD j (.dead undef)):=λj hj=>by obtain⟨ty,c,a1,a2,a3,a4⟩:=J4 hC (j:=j) (by omega);exact⟨ty,a1,by rw[lE,a2];exact a4⟩
    refine⟨.agg Cs.length λj=>Cs.getD j (.dead undef),?_,⟨λj hj=>?_,λj hj b k hf=>?_⟩,λj hj=>?_,λb k ⟨j,hj,hf⟩=>?_,?_⟩
    · show Value.agg _=_
      congr 1
      apply qF
      show (List.range Cs.length).map (λj=>(Cs.getD j (.dead undef)).val)=cs.toList
      have:(Value.agg cs).cells.toList=cs.toList:=rfl
      rw[<-this,l3]
      letI:Bs:=⟨w⟩
      exact nE Cs _ C.val
    · obtain⟨_,_,h⟩:=lP j hj;exact⟨h.cell,h.ok⟩
    · obtain⟨_,_,h⟩:=lP j hj;exact(h.fp b k hf).elim
    · obtain⟨_,_,h⟩:=lP j hj;exact OO h.cell h.cN
    · obtain⟨_,_,h⟩:=lP j hj;exact h.fp b k hf
    · refine uG.agg (by simpa using l2) λj ty x hty hx=>?_
      have hj:j<Cs.length:=by
        rcases gb j Cs.length with h|h;· exact h
        · rw[jD (by simpa using h)] at hx;cases hx
      obtain⟨ty',e1,h⟩:=lP j hj
      rw[e1] at hty
      cases hty
      rw[cV,qL hj] at hx
      simp only[cG,dH] at hx
      subst hx
      exact h.Az
  · rename_i hu
    cases ha
    obtain⟨Cs,hC⟩:=trod_good 1 true t [.bool] (by simp[jz,hu]) _ _ _ hf
    obtain⟨b,hb,_⟩:=DataW.trod_bool hu hf
    exact E0 hC (v:=v) (by unfold Value.okWide at hv;rw[hu] at hv;unfold Cell.okWide at hv;rw[hu] at hv;unfold Cell.ok at hv;rw[hu] at hv;cases v<;>first|rfl|(simp at hv;done))
  · rename_i k hu
    cases ha
    obtain⟨m,hb,_⟩:=DataW.trod_int hu hf
    obtain⟨Cs,hC⟩:=trod_good 1 true t [.int k] (by simp[jz,hu]) _ _ _ hf
    exact E0 hC (v:=v) (by unfold Value.okWide at hv;rw[hu] at hv;unfold Cell.okWide at hv;rw[hu] at hv;unfold Cell.ok at hv;rw[hu] at hv;cases v<;>first|rfl|(simp at hv;done))
  · rename_i hu
    cases ha
    obtain⟨m,hb,_⟩:=DataW.trod_string hu hf
    obtain⟨Cs,hC⟩:=trod_good 1 true t [.str] (by simp[jz,hu]) _ _ _ hf
    exact E0 hC (v:=v) (by unfold Value.okWide at hv;rw[hu] at hv;unfold Cell.okWide at hv;rw[hu] at hv;unfold Cell.ok at hv;rw[hu] at hv;cases v<;>first|rfl|(simp at hv;done))
  · rename_i e hu
    simp only[mG] at ha
    obtain⟨ts,ht,ha⟩:=ha
    split at ha
    · rename_i ty
      cases ha
      have hc:Cell.okWide P w r base t v:=by unfold Value.okWide at hv;rw[hu] at hv;exact hv
      have hv1:v.cells.toList=[v]:=by unfold Cell.okWide at hc;rw[hu] at hc;unfold Cell.ok at hc;rw[hu] at hc;cases v<;>first|rfl|(simp at hc;done)
      obtain⟨Cs,hC⟩:=trod_good _ _ _ _ ht _ _ _ hf
      exact E0 hC hv1
    · cases ha
  · cases ha
def wX:List nP->List X->Prop
  |[],[]=>True
  |a::as,x::xs=>uG a x/\wX as xs
  |_,_=>False
def OJ{r:Reach}{base:Nat}:∀{ts:List TypeId} {as:List nP} {vs:List Value} {ds:List (DataW H)} {p:List MemPlace},ts.map (uI P)=as.map some->
    (∀(j:Nat) t v,ts[j]?=some t->vs[j]?=some v->Value.okWide P w r base t v)->DataW.TrodAll enc P w 0 sp held ts vs ds p->
    ∃cs:List C,cs.map C.val=vs/\(∀c∈cs,c.ok w (Zf (λb _=>b<w.heap.size) λ_ _=>False)/\c.bare/\∀b k,¬c.fp b k)/\wX as (cs.map C.er)
  |[],[],[],[],_,_,_,_=>⟨[],rfl,λ_ h=>(by cases h),trivial⟩
  |t::ts,a::as,v::vs,d::ds,_,ha,hv,⟨p,q,h1,h2,_⟩=>by
    simp only[bC,nM] at ha;obtain⟨c,hc⟩:=WV ha.1 (hv 0 t v rfl rfl) h1;obtain⟨cs,e1,e2,e3⟩:=OJ ha.2 (λj t' v' ht eZ=>hv (j+1) t' v' (by simpa using ht) (by simpa using eZ)) h2;refine⟨c::cs,by simp[hc.val,e1],λx hx=>?_,⟨hc.Az,e3⟩⟩;rcases bM.1 hx with rfl|hx;· exact⟨hc.ok,hc.bare,hc.fp⟩
    · exact e2 x hx
def als{r:Reach}{base:Nat}{ts:List TypeId}{as:List nP}{vs:List Value}{ds:List (DataW H)}{p:List MemPlace}{f:FuncId}(ha:ts.map (uI P)=as.map some)
    (hv:∀(j:Nat) t v,ts[j]?=some t->vs[j]?=some v->Value.okWide P w r base t v)(hd:DataW.TrodAll enc P w 0 sp held ts vs ds p)
    (hAC:∀xs,wX as xs->@AC ⟨w⟩ P f xs λr _=>r=.bool true):Calls P f vs.toArray w λe w'=>e=.returned (.bool true)/\Below w.heap.size w w':=by
  obtain⟨cs,rfl,hcs,hc⟩:=OJ ha hv hd;refine(hAC _ hc w (λb _=>b<w.heap.size) (λ_ _=>False) cs rfl ⟨λx hx=>(hcs x hx).1,λx hx=>(hcs x hx).2.1,λx hx b k hf=>((hcs x hx).2.2 b k hf).elim,λb k h=>h.elim id False.elim,?_⟩ λb hb=>⟨rfl,λk=>.inl hb⟩).mono λe w' ⟨r,ps,aH,hD,hr⟩=>?_;· refine lB.2 λi j hi hj _ b k hf=>((hcs _ (cB hi)).2.2 b k hf).elim
  · letI:Bs:=⟨w⟩
    have hr':=td hr
    subst hr'
    exact⟨hD.ends,(hD.ext.mono (S':=λ_ _=>False) λb k ⟨x,hx,hf⟩ _=>(hcs x hx).2.2 b k hf).below⟩
def WU{t:TypeId}{a:nP}(h:uI P t=some a):∃n deep ts,jz P n deep t=some ts:=by
  unfold uI at h;split at h
  · simp only[lD] at h
    obtain⟨ts,ht,_⟩:=h
    exact⟨_,_,ts,ht⟩
  · rename_i hu;exact⟨1,true,[.bool],by simp[jz,hu]⟩
  · rename_i k hu;exact⟨1,true,[.int k],by simp[jz,hu]⟩
  · rename_i hu;exact⟨1,true,[.str],by simp[jz,hu]⟩
  · simp only[mG] at h
    obtain⟨ts,ht,_⟩:=h
    exact⟨_,_,ts,ht⟩
  · cases h
def ake{w':World}(hb:Below w.heap.size w w'):∀{ts:List TypeId} {as:List nP} {vs:List Value} {ds:List (DataW H)} {p:List MemPlace},ts.map (uI P)=as.map some->
    DataW.TrodAll enc P w 0 (λ_=>true) held ts vs ds p->DataW.TrodAll enc P w' 0 (λb=>decide (b<w.heap.size)) held ts vs ds p
  |[],[],[],[],_,_,h=>h
  |t::ts,a::as,v::vs,d::ds,_,ha,⟨p,q,⟨fuel,h1⟩,h2,e⟩=>by simp only[bC,nM] at ha;obtain⟨n,deep,tt,ht⟩:=WU ha.1;have h3:=Nf n deep t tt ht _ _ _ h1;exact⟨p,q,⟨fuel,DataW.trod_carry _ _ _ _ h3 λm hm=>hb.same (DataW.trod_lt _ _ _ _ h3 m hm)⟩,ake hb ha.2 h2,e⟩
end
end M
set_option linter.unusedVariables false
set_option linter.unusedSimpArgs false
namespace M
open Go
def wY(ts:List Ty)(r:List X):Prop:=r.length=ts.length/\∀(j:Nat) ty x,ts[j]?=some ty->r[j]?=some x->jg ty x
def wY.nil{r:List X}(h:wY [] r):r=[]:=Iu.1 h.1
def wY.cons{ty:Ty}{ts:List Ty}{r:List X}(h:wY (ty::ts) r):∃x r',r=x::r'/\jg ty x/\wY ts r':=by
  obtain⟨h1,h2⟩:=h;cases r with
  |nil=>cases h1
  |cons x r=>exact⟨x,r,rfl,h2 0 ty x rfl rfl,by simpa using h1,λj ty x ht hx=>h2 (j+1) ty x (by simpa using ht) (by simpa using hx)⟩
def Sz{α:Type}{e:α->List X}{ok:α->Prop}:∀{xs:List (List X)},(∀r∈xs,∃a,r=e a/\ok a)->∃l:List α,xs=l.map e/\∀a∈l,ok a
  |[],_=>⟨[],rfl,λ_ h=>by cases h⟩
  |r::xs,h=>by
    obtain⟨a,e1,e2⟩:=h r (bE ..);obtain⟨l,e3,e4⟩:=Sz (λr hr=>h r (cI _ hr));refine⟨a::l,by simp[e1,e3],λb hb=>?_⟩;rcases bM.1 hb with rfl|hb;· exact e2
    · exact e4 b hb
def YV{α:Type}(e:α->List X)(ok:α->Prop){ts:List Ty}{x:X}(h:jg (.row ts) x)(hr:∀r,wY ts r->∃a,r=e a/\ok a):∃l:List α,x=.row .sl ts.length (l.map e)/\l.length<=9223372036854775807/\∀a∈l,ok a:=by
  cases h with
  |row h1 h2 h3=>rename_i xs;obtain⟨l,rfl,hl⟩:=Sz (e:=e) (ok:=ok) (xs:=xs) λr hr'=>hr r ⟨h2 r hr',h3 r hr'⟩;rw[cX] at h1;exact⟨l,rfl,h1,hl⟩
def alY{ty:Ty}{x:X}(h:uG (.one ty) x):jg ty x:=by
  cases h with
  |one h=>exact h
def alZ{a:nP}{as:List nP}{xs:List X}(h:wX (a::as) xs):∃x xs',xs=x::xs'/\uG a x/\wX as xs':=by
  match xs,h with
  |x::xs',⟨h1,h2⟩=>exact⟨x,xs',rfl,h1,h2⟩
def al0{xs:List X}(h:wX [] xs):xs=[]:=by
  match xs,h with
  |[],_=>rfl
structure akZ (d:bR):Prop where
  hb:d.cells.length<=9223372036854775807
  hs:∀s∈d.cells,s.length<=9223372036854775807
  hb':d.pending.length<=9223372036854775807
  hs':∀s∈d.pending,s.text.length<=9223372036854775807
  hi:∀s∈d.pending,-9223372036854775808<=s.at_/\s.at_<=9223372036854775807
def YU{x:X}(h:jg (.int .u8) x):∃b:UInt8,x=.int .u8 (b.toNat:Int):=by
  cases h with
  |int h=>rename_i n;have h':(decide (IntKind.u8.min<=n) && decide (n<=IntKind.u8.max))=true:=h;rw[av,bx,bx] at h';have h1:0<=n:=h'.1;have h2:n<=255:=h'.2;refine⟨UInt8.ofNat n.toNat,?_⟩;rw[NY];congr 1;omega
def al1{x:X}(h:jg (.row [.int .u8]) x):∃l:List UInt8,x=.row .sl 1 (l.map eU)/\l.length<=9223372036854775807/\∀b∈l,True:=
  YV eU (λ_=>True) h λr hr=>by obtain⟨x,r',rfl,h1,h2⟩:=hr.cons;obtain rfl:=h2.nil;obtain⟨b,rfl⟩:=YU h1;exact⟨b,rfl,trivial⟩
end M
set_option linter.unusedVariables false
set_option linter.unusedSimpArgs false
namespace M
open Go
end M
set_option linter.unusedVariables false
set_option linter.unusedSimpArgs false
namespace M
open Go
def akx{n:Int}(h1:0<=n)(h2:n<256):IntKind.u8.wrap n=n:=by simp only[IntKind.wrap,IntKind.signed,IntKind.bits,Bool.false_and,iP,iD];omega
def bJ(n:Nat):ah:=Lib.decDigits n
def JE:bJ 0=[48]:=by unfold bJ;rw[Lib.decDigits];rfl
def xx(k:Nat):∀(n:Nat),n<10^(k+1)->(bJ n).length<=k+1:=by
  induction k with
  |zero=>intro n h;unfold bJ;rw[Lib.decDigits,oZ (by simpa using h)];simp
  |succ k ih=>
    intro n h;unfold bJ;rw[Lib.decDigits];by_cases h1:n<10;· rw[oZ h1];simp
    · rw[DP h1,gT]
      have:=ih (n / 10) (by rw[Nat.pow_succ] at h;omega)
      unfold bJ at this
      simp only[di,jE]
      omega
def LL(n:Nat):Lib.itoa (n:Int)=bJ n:=by unfold Lib.itoa bJ;rw[ay (by omega)];rfl
def CH:List X->Option X
  |[.int .i64 n]=>if -9223372036854775808<=n/\n<=9223372036854775807 then some (.str ⟨(Go.Lib.itoa n).toArray⟩) else none
  |_=>none
def adY(f:FuncId)(n:Nat)(h:n<10^18):iy f CH f [.int .i64 (n:Int)]=some (.str ⟨(bJ n).toArray⟩,[.dead]):=by
  have h1:(n:Int)<=9223372036854775807:=by omega
  have h2:=xx 17 n (by omega);simp[iy,CH,LL,scalar,Dq,h1];omega
end M
set_option linter.unusedVariables false
set_option linter.unusedSimpArgs false
namespace M
open Go
def wS(s:ah):Nat:=s.length
def wO{α:Type}(_:α):Nat:=0
def wL{α:Type}(w:α->Nat)(l:List α):Nat:=l.length+(l.map w).sum
def gB{α:Type}{w:α->Nat}:∀{l:List α} {a:α},a∈l->w a<=wL w l
  |b::l,a,h=>by
    rcases bM.1 h with rfl|h;· simp[wL];omega
    · have:=gB (w:=w) h
      simp[wL] at this⊢;omega
def bg{α:Type}{w:α->Nat}(l:List α):l.length<=wL w l:=by unfold wL;omega
def bI(n:Int):Prop:=-9223372036854775808<=n/\n<=9223372036854775807
def bS(s:ah):Prop:=s.length<=9223372036854775807
def bB(_:Bool):Prop:=True
def bL{α:Type}(b:α->Prop)(l:List α):Prop:=l.length<=9223372036854775807/\∀a∈l,b a
@[simp] def eI(n:Int):List X:=[.int .i64 n]
@[simp] def anS(m:Md)(l:List Int):X.cl m (l.map eI)=l.map eI:=by induction l<;>simp_all[X.cl,X.dU,X.md]
@[simp] def alC(l:List Int):X.clean.bw (l.map eI)=true:=by induction l<;>simp_all[X.clean.bw,X.clean.cD,X.clean]
structure aM where
  name:ah
  value:ah
  deriving DecidableEq
@[simp] def aW(a:aM):List X:=[.str ⟨(a.name).toArray⟩,.str ⟨(a.value).toArray⟩]
@[simp] def anR(m:Md)(l:List aM):X.cl m (l.map aW)=l.map aW:=by induction l<;>simp_all[X.cl,X.dU,X.md]
@[simp] def alB(l:List aM):X.clean.bw (l.map aW)=true:=by induction l<;>simp_all[X.clean.bw,X.clean.cD,X.clean]
def aL(a:aM):Nat:=a.name.length+a.value.length
structure An (x:aM):Prop where
  ano:bS x.name
  anA:bS x.value
structure aV where
  status:Int
  fields:List aM
  body:ah
  deriving DecidableEq
@[simp] def cF(m:Md)(a:aV):List X:=[.int .i64 a.status,.row m 2 ((a.fields).map aW),.str ⟨(a.body).toArray⟩]
@[simp] def anX(m m':Md)(l:List aV):X.cl m (l.map (cF m'))=l.map (cF m):=by induction l<;>simp_all[X.cl,X.dU,X.md]
@[simp] def alH(l:List aV):X.clean.bw (l.map (cF .own))=true:=by induction l<;>simp_all[X.clean.bw,X.clean.cD,X.clean]
@[simp] def alU(l:List aV):X.clean.bw (l.map (cF .sl))=true:=by induction l<;>simp_all[X.clean.bw,X.clean.cD,X.clean]
def aJ(a:aV):Nat:=wL aL a.fields+a.body.length
structure sU (x:aV):Prop where
  anx:bI x.status
  ad6:(bL An) x.fields
  ad4:bS x.body
structure Rq where
  method:Int
  path:ah
  fields:List aM
  body:ah
  deriving DecidableEq
@[simp] def dN(m:Md)(a:Rq):List X:=[.int .i64 a.method,.str ⟨(a.path).toArray⟩,.row m 2 ((a.fields).map aW),.str ⟨(a.body).toArray⟩]
@[simp] def anW(m m':Md)(l:List Rq):X.cl m (l.map (dN m'))=l.map (dN m):=by induction l<;>simp_all[X.cl,X.dU,X.md]
@[simp] def alG(l:List Rq):X.clean.bw (l.map (dN .own))=true:=by induction l<;>simp_all[X.clean.bw,X.clean.cD,X.clean]
@[simp] def alT(l:List Rq):X.clean.bw (l.map (dN .sl))=true:=by induction l<;>simp_all[X.clean.bw,X.clean.cD,X.clean]
def bn(a:Rq):Nat:=a.path.length+wL aL a.fields+a.body.length
structure sS (x:Rq):Prop where
  ann:bI x.method
  ad7:bS x.path
  ad6:(bL An) x.fields
  ad4:bS x.body
structure Ob where
  path:ah
  names:List ah
  values:List ah
  resp:aV
  t:Int
  deriving DecidableEq
@[simp] def cE(m:Md)(a:Ob):List X:=[.str ⟨(a.path).toArray⟩,.row m 1 ((a.names).map eS),.row m 1 ((a.values).map eS),.int .i64 a.resp.status,.row m 2 ((a.resp.fields).map aW),.str ⟨(a.resp.body).toArray⟩,.int .i64 a.t]
@[simp] def anU(m m':Md)(l:List Ob):X.cl m (l.map (cE m'))=l.map (cE m):=by induction l<;>simp_all[X.cl,X.dU,X.md]
@[simp] def alE(l:List Ob):X.clean.bw (l.map (cE .own))=true:=by induction l<;>simp_all[X.clean.bw,X.clean.cD,X.clean]
@[simp] def alR(l:List Ob):X.clean.bw (l.map (cE .sl))=true:=by induction l<;>simp_all[X.clean.bw,X.clean.cD,X.clean]
def aU(a:Ob):Nat:=a.path.length+wL wS a.names+wL wS a.values+aJ a.resp
structure uK (x:Ob):Prop where
  ad7:bS x.path
  anp:(bL bS) x.names
  anB:(bL bS) x.values
  LO:sU x.resp
  CK:bI x.t
structure Kp where
  obj:Ob
  at_:Int
  seq:Int
  deriving DecidableEq
@[simp] def au(m:Md)(a:Kp):List X:=[.str ⟨(a.obj.path).toArray⟩,.row m 1 ((a.obj.names).map eS),.row m 1 ((a.obj.values).map eS),.int .i64 a.obj.resp.status,.row m 2 ((a.obj.resp.fields).map aW),.str ⟨(a.obj.resp.body).toArray⟩,.int .i64 a.obj.t,.int .i64 a.at_,.int .i64 a.seq]
@[simp] def anT(m m':Md)(l:List Kp):X.cl m (l.map (au m'))=l.map (au m):=by induction l<;>simp_all[X.cl,X.dU,X.md]
@[simp] def alD(l:List Kp):X.clean.bw (l.map (au .own))=true:=by induction l<;>simp_all[X.clean.bw,X.clean.cD,X.clean]
@[simp] def alQ(l:List Kp):X.clean.bw (l.map (au .sl))=true:=by induction l<;>simp_all[X.clean.bw,X.clean.cD,X.clean]
def cQ(a:Kp):Nat:=aU a.obj
structure IV (x:Kp):Prop where
  Si:uK x.obj
  ad2:bI x.at_
  ad9:bI x.seq
def fC(a:Wr):Nat:=a.text.length
structure IZ (x:Wr):Prop where
  ad2:bI x.at_
  anz:bS x.text
def dm(a:bR):Nat:=wL wS a.cells+wL fC a.pending
structure IQ (x:bR):Prop where
  ani:(bL bS) x.cells
  anu:(bL IZ) x.pending
structure Bn where
  kind:Int
  a:ah
  b:ah
  t:Int
  deriving DecidableEq
@[simp] def cY(a:Bn):List X:=[.int .i64 a.kind,.str ⟨(a.a).toArray⟩,.str ⟨(a.b).toArray⟩,.int .i64 a.t]
@[simp] def anN(m:Md)(l:List Bn):X.cl m (l.map cY)=l.map cY:=by induction l<;>simp_all[X.cl,X.dU,X.md]
@[simp] def aly(l:List Bn):X.clean.bw (l.map cY)=true:=by induction l<;>simp_all[X.clean.bw,X.clean.cD,X.clean]
def bz(a:Bn):Nat:=a.a.length+a.b.length
structure Ec (x:Bn):Prop where
  Sg:bI x.kind
  k_a:bS x.a
  k_b:bS x.b
  CK:bI x.t
structure Sh where
  aP:bR
  aC:List Kp
  aG:List Bn
  next:Int
  seq:Int
  deriving DecidableEq
@[simp] def bp(m:Md)(a:Sh):List X:=[.row m 1 ((a.aP.cells).map eS),.row m 2 ((a.aP.pending).map eW),.row m 9 ((a.aC).map (au m)),.row m 4 ((a.aG).map cY),.int .i64 a.next,.int .i64 a.seq]
@[simp] def an0(m m':Md)(l:List Sh):X.cl m (l.map (bp m'))=l.map (bp m):=by induction l<;>simp_all[X.cl,X.dU,X.md]
@[simp] def alK(l:List Sh):X.clean.bw (l.map (bp .own))=true:=by induction l<;>simp_all[X.clean.bw,X.clean.cD,X.clean]
@[simp] def alW(l:List Sh):X.clean.bw (l.map (bp .sl))=true:=by induction l<;>simp_all[X.clean.bw,X.clean.cD,X.clean]
def cx(a:Sh):Nat:=dm a.aP+wL cQ a.aC+wL bz a.aG
structure IY (x:Sh):Prop where
  anj:IQ x.aP
  ans:(bL IV) x.aC
  ad3:(bL Ec) x.aG
  anq:bI x.next
  ad9:bI x.seq
structure Fl where
  q:Rq
  who:List Int
  old:Ob
  fO:Bool
  deriving DecidableEq
@[simp] def cj(m:Md)(a:Fl):List X:=[.int .i64 a.q.method,.str ⟨(a.q.path).toArray⟩,.row m 2 ((a.q.fields).map aW),.str ⟨(a.q.body).toArray⟩,.row m 1 ((a.who).map eI),.str ⟨(a.old.path).toArray⟩,.row m 1 ((a.old.names).map eS),.row m 1 ((a.old.values).map eS),.int .i64 a.old.resp.status,.row m 2 ((a.old.resp.fields).map aW),.str ⟨(a.old.resp.body).toArray⟩,.int .i64 a.old.t,.bool a.fO]
@[simp] def anQ(m m':Md)(l:List Fl):X.cl m (l.map (cj m'))=l.map (cj m):=by induction l<;>simp_all[X.cl,X.dU,X.md]
@[simp] def PI(l:List Fl):X.clean.bw (l.map (cj .own))=true:=by induction l<;>simp_all[X.clean.bw,X.clean.cD,X.clean]
@[simp] def alP(l:List Fl):X.clean.bw (l.map (cj .sl))=true:=by induction l<;>simp_all[X.clean.bw,X.clean.cD,X.clean]
def cm(a:Fl):Nat:=bn a.q+wL wO a.who+aU a.old
structure IU (x:Fl):Prop where
  LN:sS x.q
  anC:(bL bI) x.who
  ant:uK x.old
  anl:bB x.fO
structure Se where
  q:Rq
  resp:aV
  t:Int
  deriving DecidableEq
@[simp] def pF(m:Md)(a:Se):List X:=[.int .i64 a.q.method,.str ⟨(a.q.path).toArray⟩,.row m 2 ((a.q.fields).map aW),.str ⟨(a.q.body).toArray⟩,.int .i64 a.resp.status,.row m 2 ((a.resp.fields).map aW),.str ⟨(a.resp.body).toArray⟩,.int .i64 a.t]
@[simp] def anZ(m m':Md)(l:List Se):X.cl m (l.map (pF m'))=l.map (pF m):=by induction l<;>simp_all[X.cl,X.dU,X.md]
@[simp] def alJ(l:List Se):X.clean.bw (l.map (pF .own))=true:=by induction l<;>simp_all[X.clean.bw,X.clean.cD,X.clean]
@[simp] def alV(l:List Se):X.clean.bw (l.map (pF .sl))=true:=by induction l<;>simp_all[X.clean.bw,X.clean.cD,X.clean]
def fB(a:Se):Nat:=bn a.q+aJ a.resp
structure IX (x:Se):Prop where
  LN:sS x.q
  LO:sU x.resp
  CK:bI x.t
structure Rp where
  client:Int
  q:Rq
  resp:aV
  kind:Int
  t:Int
  obj:Ob
  aG:Int
  deriving DecidableEq
@[simp] def dY(m:Md)(a:Rp):List X:=[.int .i64 a.client,.int .i64 a.q.method,.str ⟨(a.q.path).toArray⟩,.row m 2 ((a.q.fields).map aW),.str ⟨(a.q.body).toArray⟩,.int .i64 a.resp.status,.row m 2 ((a.resp.fields).map aW),.str ⟨(a.resp.body).toArray⟩,.int .i64 a.kind,.int .i64 a.t,.str ⟨(a.obj.path).toArray⟩,.row m 1 ((a.obj.names).map eS),.row m 1 ((a.obj.values).map eS),.int .i64 a.obj.resp.status,.row m 2 ((a.obj.resp.fields).map aW),.str ⟨(a.obj.resp.body).toArray⟩,.int .i64 a.obj.t,.int .i64 a.aG]
@[simp] def anV(m m':Md)(l:List Rp):X.cl m (l.map (dY m'))=l.map (dY m):=by induction l<;>simp_all[X.cl,X.dU,X.md]
@[simp] def alF(l:List Rp):X.clean.bw (l.map (dY .own))=true:=by induction l<;>simp_all[X.clean.bw,X.clean.cD,X.clean]
@[simp] def alS(l:List Rp):X.clean.bw (l.map (dY .sl))=true:=by induction l<;>simp_all[X.clean.bw,X.clean.cD,X.clean]
def cL(a:Rp):Nat:=bn a.q+aJ a.resp+aU a.obj
structure IW (x:Rp):Prop where
  ad5:bI x.client
  LN:sS x.q
  LO:sU x.resp
  Sg:bI x.kind
  CK:bI x.t
  Si:uK x.obj
  ad3:bI x.aG
structure Ca where
  ai:Sh
  aF:List Fl
  now:Int
  seen:List Se
  sent:List Rp
  deriving DecidableEq
@[simp] def aI(m:Md)(a:Ca):List X:=[.row m 1 ((a.ai.aP.cells).map eS),.row m 2 ((a.ai.aP.pending).map eW),.row m 9 ((a.ai.aC).map (au m)),.row m 4 ((a.ai.aG).map cY),.int .i64 a.ai.next,.int .i64 a.ai.seq,.row m 13 ((a.aF).map (cj m)),.int .i64 a.now,.row m 8 ((a.seen).map (pF m)),.row m 18 ((a.sent).map (dY m))]
@[simp] def anO(m m':Md)(l:List Ca):X.cl m (l.map (aI m'))=l.map (aI m):=by induction l<;>simp_all[X.cl,X.dU,X.md]
@[simp] def alz(l:List Ca):X.clean.bw (l.map (aI .own))=true:=by induction l<;>simp_all[X.clean.bw,X.clean.cD,X.clean]
@[simp] def alN(l:List Ca):X.clean.bw (l.map (aI .sl))=true:=by induction l<;>simp_all[X.clean.bw,X.clean.cD,X.clean]
def aN(a:Ca):Nat:=cx a.ai+wL cm a.aF+wL fB a.seen+wL cL a.sent
structure Am (x:Ca):Prop where
  anw:IY x.ai
  ank:(bL IU) x.aF
  anr:bI x.now
  anv:(bL IX) x.seen
  ad8:(bL IW) x.sent
structure De where
  kind:Int
  client:Int
  q:Rq
  a:Int
  resp:aV
  iH:Bn
  keep:List Bool
  deriving DecidableEq
@[simp] def ff(m:Md)(a:De):List X:=[.int .i64 a.kind,.int .i64 a.client,.int .i64 a.q.method,.str ⟨(a.q.path).toArray⟩,.row m 2 ((a.q.fields).map aW),.str ⟨(a.q.body).toArray⟩,.int .i64 a.a,.int .i64 a.resp.status,.row m 2 ((a.resp.fields).map aW),.str ⟨(a.resp.body).toArray⟩,.int .i64 a.iH.kind,.str ⟨(a.iH.a).toArray⟩,.str ⟨(a.iH.b).toArray⟩,.int .i64 a.iH.t,.row m 1 ((a.keep).map eB)]
@[simp] def anP(m m':Md)(l:List De):X.cl m (l.map (ff m'))=l.map (ff m):=by induction l<;>simp_all[X.cl,X.dU,X.md]
@[simp] def alA(l:List De):X.clean.bw (l.map (ff .own))=true:=by induction l<;>simp_all[X.clean.bw,X.clean.cD,X.clean]
@[simp] def alO(l:List De):X.clean.bw (l.map (ff .sl))=true:=by induction l<;>simp_all[X.clean.bw,X.clean.cD,X.clean]
structure bDe (x:De):Prop where
  Sg:bI x.kind
  ad5:bI x.client
  LN:sS x.q
  k_a:bI x.a
  LO:sU x.resp
  anh:Ec x.iH
  anm:(bL bB) x.keep
end M
set_option linter.unusedVariables false
set_option linter.unusedSimpArgs false
namespace M
open Go
def cS{β:Type}(p:β->Bool):Nat->List β->Option (Nat×β)
  |_,[]=>none
  |i,b::l=>if p b=true then some (i,b) else cS p (i+1) l
def q9{β:Type}{p:β->Bool}:∀{l:List β} {k i:Nat} {b:β},cS p k l=some (i,b)->k<=i/\l[i - k]?=some b/\p b=true
  |b'::l,k,i,b,h=>by
    unfold cS at h;split at h
    · rename_i hp
      cases h
      exact⟨dc _,by simp,hp⟩
    · obtain⟨h1,h2,h3⟩:=q9 h
      refine⟨by omega,?_,h3⟩
      rw[show i - k=(i - (k+1))+1 by omega,Vr]
      exact h2
def EP{β:Type}{p:β->Bool}:∀{l:List β} {k:Nat},cS p k l=none↔∀b∈l,¬p b=true
  |[],k=>by simp[cS]
  |b'::l,k=>by
    unfold cS;by_cases hp:p b'=true;· simp[hp]
    · rw[ay hp,EP]
      simp[hp]
def vN{xt:Nat}{β:Type}{f:ag->cK}(l:List β)(st:Nat->ag)(p:β->Bool)(R:Nat->β->ag)(E:ag)
    (h:∀i b,l[i]?=some b->i<l.length->f (st i)=if p b=true then some (.ret,R i b) else some (.normal,st (i+1)))
    (hend:f (st l.length)=some (.exit xt,E)):
    bh f (st 0)=(cS p 0 l).elim (some (.exit xt,E)) λx=>some (.ret,R x.1 x.2):=by
  suffices H:∀(r:List β) (i:Nat),l.drop i=r->i<=l.length->bh f (st i)=(cS p i r).elim (some (.exit xt,E)) λx=>some (.ret,R x.1 x.2) from H l 0 rfl (uA _)
  intro r;induction r with
  |nil=>
    intro i hr hi;have:i=l.length:=by have:=dB List.length hr;simp at this;omega
    subst this;rw[fm,hend];rfl
  |cons b r ih=>
    intro i hr hi;have hb:l[i]?=some b:=by have:=dB (λt:List β=>t[0]?) hr;simpa using this
    have hlt:i<l.length:=(aQ.1 hb).1;have hd:l.drop (i+1)=r:=by have:=dB List.tail hr;simpa using this
    rw[fm,h i b hb hlt];unfold cS;by_cases hp:p b=true;· simp[hp,lv]
    · simp only[hp]
      exact ih (i+1) hd hlt
def tZ{xt:Nat}{β γ:Type}{f:ag->cK}(l:List β)(φ:β->List γ)(st:Nat->List γ->ag)(E:List γ->ag)
    (h:∀i b out,l[i]?=some b->i<l.length->out=(l.take i).flatMap φ->f (st i out)=some (.normal,st (i+1) (out++φ b)))
    (hend:∀out,out=l.flatMap φ->f (st l.length out)=some (.exit xt,E out)):
    bh f (st 0 [])=some (.exit xt,E (l.flatMap φ)):=by
  suffices H:∀(k i:Nat),i+k=l.length->bh f (st i ((l.take i).flatMap φ))=some (.exit xt,E (l.flatMap φ)) from H l.length 0 (by omega)
  intro k;induction k with
  |zero=>
    intro i hi;obtain rfl:i=l.length:=by omega
    rw[qG,fm,hend _ rfl];rfl
  |succ k ih=>
    intro i hi;have hlt:i<l.length:=by omega
    rw[fm,h i l[i] _ (cr hlt) hlt rfl];have:(l.take i).flatMap φ++φ l[i]=(l.take (i+1)).flatMap φ:=by rw[uz hlt,N7];simp
    simp only[this];exact ih (i+1) (by omega)
def JT{β γ:Type}(g:β->γ)(l:List β):l.flatMap (λb=>[g b])=l.map g:=by induction l<;>simp_all
def xI{β γ:Type}(g:β->γ)(l:List β)(i:Nat)(h:i<=l.length):((l.take i).flatMap (λb=>[g b])).length=i:=by rw[JT];simp;omega
def ko{β:Type}(p:β->Bool)(l:List β):Int:=foldI (λi g b=>if p b=true then (i:Int) else g) 0 l (-1)
def QY{β γ:Type}(go:Nat->γ->β->γ):∀(l:List β) (k:Nat) (b:β) (g:γ),foldI go k (l++[b]) g=go (k+l.length) (foldI go k l g) b
  |[],k,b,g=>rfl
  |a::l,k,b,g=>by show foldI go (k+1) (l++[b]) (go k g a)=go (k+(l.length+1)) (foldI go (k+1) l (go k g a)) b;rw[QY go l (k+1) b,show k+1+l.length=k+(l.length+1) by omega]
def Sq{β:Type}(p:β->Bool)(l:List β)(k:Nat)(h:k<l.length):ko p (l.take (k+1))=if p l[k]=true then (k:Int) else ko p (l.take k):=by unfold ko;rw[uz h,QY,zX,nK (by omega),mF]
def aez{xt:Nat}{β:Type}{f:ag->cK}(l:List β)(st:Int->ag)(p:β->Bool)(R:Int->ag)(E:ag)
    (h:∀(i:Nat) b,l[i]?=some b->i<l.length->f (st i)=if p b=true then some (.ret,R i) else some (.normal,st (i - 1)))
    (hend:f (st (-1))=some (.exit xt,E)):
    bh f (st (l.length - 1))=if ko p l<0 then some (.exit xt,E) else some (.ret,R (ko p l)):=by
  suffices H:∀k,k<=l.length->bh f (st ((k:Int) - 1))=if ko p (l.take k)<0 then some (.exit xt,E) else some (.ret,R (ko p (l.take k))) by have:=H l.length (dc _);rwa [qG] at this
  intro k;induction k with
  |zero=>
    intro _;rw[fm];have:ko p (l.take 0)=-1:=by simp[ko,foldI]
    rw[this,show (((0:Nat):Int) - 1)=-1 by omega,hend];rfl
  |succ k ih=>
    intro hk;rw[fm,show (((k+1:Nat):Int) - 1)=(k:Int) by omega,h k l[k] (cr (by omega)) (by omega),Sq p l k (by omega)];by_cases hp:p l[k]=true
    · simp only[hp,eN]
      rw[ay (by omega)]
      rfl
    · simp only[hp]
      exact ih (by omega)
def aej{β:Type}{p:β->Bool}{l:List β}(h:ko p l<0):ko p l=-1:=by
  have H:∀k,k<=l.length->ko p (l.take k)=-1\/0<=ko p (l.take k):=by
    intro k;induction k with
    |zero=>intro _;exact .inl (by simp[ko,foldI])
    |succ k ih=>
      intro hk;rw[Sq p l k (by omega)];split;· exact .inr (by omega)
      · exact ih (by omega)
  have:=H l.length (dc _);rw[qG] at this;omega
end M
set_option linter.unusedVariables false
set_option linter.unusedSimpArgs false
namespace M
open Go
def yP(b:UInt8):UInt8:=if 65<=b.toNat/\b.toNat<=90 then b+32 else b
def dw(s:ah):ah:=s.map yP
def Du(b:UInt8):Bool:=decide ((97<=b.toNat/\b.toNat<=122)\/(48<=b.toNat/\b.toNat<=57)\/b.toNat=45)
def gR(s:ah):Bool:=bq Du s && decide (1<=(s.length:Int)/\(s.length:Int)<=20)
def qE(lo:Nat)(b:UInt8):Bool:=decide (lo<=b.toNat/\b.toNat<=126)
def jx(s:ah):ah:=Lib.trimB s 32
def jA(s:ah):Bool:=bq (qE 32) s && decide (1<=(s.length:Int)/\(s.length:Int)<=60) && decide (jx s=s)
def dn(n:Int):ah:=if 0<=n/\n<=1000000 then bJ n.toNat else []
def AE(b:UInt8):Bool:=decide (48<=b.toNat/\b.toNat<=57)
def uw(s:ah):Nat:=s.foldl (λx b=>10*x+b.toNat - 48) 0
def cz(s:ah):Option Nat:=if uw s<=1000000/\bJ (uw s)=s then some (uw s) else none
def lg(s:ah):Bool:=bq (qE 33) s && decide (1<=(s.length:Int)/\(s.length:Int)<=60) && decide (s[0]?.map (λb:UInt8=>(b.toNat:Int))=some 47)
def Uu(s:ah):(jx s).length<=s.length:=by unfold jx Lib.trimB Lib.trimLeftB Lib.trimRightB;have h1:=(Vo (l:=(List.dropWhile (λx=>x==32) s.reverse).reverse) (λx=>x==(32:UInt8))).length_le;have h2:=(Vo (l:=s.reverse) (λx=>x==(32:UInt8))).length_le;simp only[Vv] at h1 h2;omega
def ab5{α β:Type}(f:β->α->β)(l:List α)(a:α)(b:β):(l++[a]).foldl f b=f (l.foldl f b) a:=by simp
def P3(n:Nat):bJ n≠[]:=by intro h;have:(bJ n).length=Lib.nDigits n:=Lib.decDigits_length n;rw[h] at this;have h2:=Lib.nDigits_pos n;rw[<-this] at h2;simp at h2
def JD(n:Nat)(h:¬n<10):bJ n=bJ (n / 10)++[UInt8.ofNat (48+n%10)]:=by unfold bJ;rw[Lib.decDigits,DP h]
def JC(n:Nat)(h:n<10):bJ n=[UInt8.ofNat (48+n)]:=by unfold bJ;rw[Lib.decDigits,oZ h]
def xy(k:Nat)(h:k<10):(UInt8.ofNat (48+k)).toNat=48+k:=by rw[NY];omega
def aki:∀n:Nat,uw (bJ n)=n:=by
  intro n;induction n using Nat.strongRecOn with
  |ind n ih=>
    by_cases h:n<10
    · rw[JC n h]
      simp only[uw,qJ,List.foldl_nil,xy n h]
      omega
    · rw[JD n h]
      have:=ih (n / 10) (by omega)
      unfold uw at this⊢
      rw[ab5,this,xy _ (by omega)]
      omega
def P0:∀n:Nat,bq AE (bJ n)=true:=by
  intro n;induction n using Nat.strongRecOn with
  |ind n ih=>
    rw[gj];by_cases h:n<10
    · rw[JC n h]
      intro x hx
      rw[fQ.1 hx]
      unfold AE
      rw[xy n h]
      simp;omega
    · rw[JD n h]
      intro x hx
      rcases fE.1 hx with hx|hx
      · exact gj.1 (ih _ (by omega)) x hx
      · rw[fQ.1 hx]
        unfold AE
        rw[xy _ (by omega)]
        simp;omega
def vU{s:ah}{n:Nat}:cz s=some n↔n<=1000000/\bJ n=s:=by
  unfold cz;constructor
  · intro h
    split at h
    · rename_i hc
      cases h
      exact hc
    · cases h
  · rintro ⟨h1,rfl⟩
    rw[aki,aq ⟨h1,rfl⟩]
def qY(n:Nat)(h:n<=1000000):(bJ n).length<=7:=xx 6 n (by omega)
def SX(n:Nat)(h:n<=1000000):dn (n:Int)=bJ n:=by unfold dn;rw[aq (by omega)];rfl
def ae9(n:Nat)(h:n<=1000000):cz (dn n)=some n:=vU.2 ⟨h,(SX n h).symm⟩
def agi:∀(n acc:Nat) (l:List UInt8),acc*10^Lib.nDigits n+n<10000000000->Lib.parseUint10 acc (bJ n++l)=Lib.parseUint10 (acc*10^Lib.nDigits n+n) l:=by
  intro n;induction n using Nat.strongRecOn with
  |ind n ih=>
    intro acc l hn;by_cases h:n<10
    · rw[JC n h]
      simp only[gS,kB,Lib.parseUint10,xy n h]
      rw[Lib.nDigits_small h] at hn⊢
      rw[aq (by omega),ay (by omega),ay (by omega)]
      congr 1
      omega
    · rw[JD n h,sJ]
      have e:=Lib.nDigits_big h
      rw[e,Nat.pow_succ] at hn⊢
      have hm:acc*(10^Lib.nDigits (n / 10)*10)=acc*10^Lib.nDigits (n / 10)*10:=by rw[Nat.mul_assoc]
      rw[hm] at hn⊢
      rw[ih (n / 10) (by omega) acc _ (by omega)]
      have hd:=xy (n%10) (by omega)
      simp only[gS,kB,Lib.parseUint10,hd]
      rw[aq (by omega),ay (by omega),ay (by omega)]
      congr 1
      omega
def OK(n:Nat)(h:n<=1000000):Lib.atoiAll (bJ n)=.ok (n:Int):=by
  cases hd:bJ n with
  |nil=>exact absurd hd (P3 n)
  |cons c r=>have hc:=gj.1 (P0 n) c (by rw[hd];exact bE ..);simp only[AE,bx] at hc;rw[Lib.atoiAll_plain c r (by omega) (by omega),<-hd];unfold Lib.parseMag;rw[ay (P3 n)];have:=agi n 0 [] (by omega);rw[sK] at this;rw[this];simp only[Lib.parseUint10,Lib.signless];rw[ay (by omega)];simp
def ae6(s:ah)(n:Int)(h:Lib.atoiAll s=.ok n):(if 0<=n/\n<=1000000/\Lib.itoa n=s then some n.toNat else none)=cz s:=by
  split
  · rename_i hc
    symm
    refine vU.2 ⟨by omega,?_⟩
    rw[<-LL,<-hc.2.2]
    congr 1
    omega
  · rename_i hc
    cases hr:cz s with
    |none=>rfl
    |some m=>
      obtain⟨h1,rfl⟩:=vU.1 hr
      rw[OK m h1] at h
      obtain rfl:(m:Int)=n:=by injection h
      exact absurd ⟨by omega,by omega,LL m⟩ hc
def ae8(s:ah)(h:∀n,Lib.atoiAll s≠.ok n):cz s=none:=by
  cases hr:cz s with
  |none=>rfl
  |some m=>obtain⟨h1,rfl⟩:=vU.1 hr;exact absurd (OK m h1) (h m)
def ae7(s:ah)(h:7<s.length):cz s=none:=by
  cases hr:cz s with
  |none=>rfl
  |some m=>obtain⟨h1,rfl⟩:=vU.1 hr;have:=qY m h1;omega
def cu(c:UInt8):ah->List ah
  |[]=>[[]]
  |b::s=>if b=c then []::cu c s else match cu c s with
    |w::ws=>(b::w)::ws
    |[]=>[[b]]
def HI(c:UInt8)(s:ah):cu c s≠[]:=by
  cases s with
  |nil=>simp[cu]
  |cons b s=>
    unfold cu;split;· simp
    · split<;>simp
def mB(s:ah):List ah:=((cu 44 s).map jx).filter λw=>decide (w≠[])
end M
set_option linter.unusedVariables false
set_option linter.unusedSimpArgs false
namespace M
open Go Go.RowKit
def kG(w w':World)(c:C):Prop:=(∀Z,c.ok w' Z)/\c.bare/\∀b k,c.fp b k->w.heap.size<=b
def WG[Bs]{P:Program}{f:FuncId}{xs:List X}{r:X}
    (h:∀w zl zb cs,cs.map C.er=xs->nQ w zl zb cs->o9 w->Calls P f (cs.map C.val).toArray w λe w'=>∃c:C,e=.returned c.val/\c.er=r/\Below w.heap.size w w'/\kG w w' c):
    AC P f xs λr' ps=>r'=r/\ps=xs.map λ_=>.dead:=by
  intro w zl zb cs e hA iT;refine(h w zl zb cs e hA λb hb=>(iT b hb).1).mono λe' w' ⟨c,he,hc,hb,c1,c2,c3⟩=>?_;have Bb:Ext (λb k=>∃x∈cs,x.fp b k) w w':=⟨hb.os,hb.tape,hb.output,hb.size,λb hl=>.inl (hb.block b hl)⟩;refine⟨c,cs.map λx=>.dead x.val,zl,⟨he,by rw[cM];rfl,Bb,⟨λx hx'=>?_,λx hx'=>?_,λx hx' b k hf=>?_,λb k hz=>jd (hA.cC b k (hz.imp id λh=>h.elim)) hb.size,?_⟩,λx hx' b k hf=>?_,λ_ _ h=>h,λ_ _ h=>.inl h⟩,hc,?_⟩
  · rcases bM.1 hx' with rfl|hx'
    · exact c1 _
    · obtain⟨y,_,rfl⟩:=aY.1 hx';trivial
  · rcases bM.1 hx' with rfl|hx'
    · exact c2
    · obtain⟨y,_,rfl⟩:=aY.1 hx';trivial
  · rcases bM.1 hx' with rfl|hx'
    · have h1:=c3 b k hf
      exact⟨λhz=>by have:=hA.cC b k (.inl hz);omega,λhz=>hz⟩
    · obtain⟨y,_,rfl⟩:=aY.1 hx';exact hf.elim
  · refine ew.2 ⟨λx hx b k hf hf'=>?_,?_⟩
    · obtain⟨y,_,rfl⟩:=aY.1 hx;exact hf'
    · refine lB.2 λi j hi hj _ b k hf=>?_
      obtain⟨y,_,hy⟩:=aY.1 (cB hi)
      rw[<-hy] at hf
      exact hf.elim
  · rcases bM.1 hx' with rfl|hx'
    · exact .inr (c3 b k hf)
    · obtain⟨y,_,rfl⟩:=aY.1 hx';exact hf.elim
  · rw[<-e]
    simp[cM,zS,C.er]
def dx(f0:FuncId)(g:List X->Option X):ct:=λf xs=>if f=f0 then (match g xs with
  |some r=>some (r,xs.map λ_=>.dead)
  |none=>none) else none
def vR[Bs]{P:Program}{f0:FuncId}{g:List X->Option X}
    (h:∀xs r,g xs=some r->∀w zl zb cs,cs.map C.er=xs->nQ w zl zb cs->o9 w->Calls P f0 (cs.map C.val).toArray w λe w'=>∃c:C,e=.returned c.val/\c.er=r/\Below w.heap.size w w'/\kG w w' c):(dx f0 g).Sound P:=λf xs o e=>by
  unfold dx at e;split at e
  · rename_i hf
    subst hf
    split at e
    · rename_i r hr
      cases e
      exact WG (h xs r hr)
    · cases e
  · cases e
def kO{c:C}{s:ByteArray}(h:c.er=.str s):c=.str s:=by cases c<;>simp[C.er] at h;rw[h]
def nW{c:C}{k:IntKind}{n:Int}(h:c.er=.int k n):c=.int k n:=by cases c<;>simp[C.er] at h;rw[h.1,h.2]
def Qm{c:C}{b:Bool}(h:c.er=.bool b):c=.bool b:=by cases c<;>simp[C.er] at h;rw[h]
def map_nil{l:List C}(h:l.map C.er=[]):l=[]:=by simpa using h
def map_cons{l:List C}{x:X}{xs:List X}(h:l.map C.er=x::xs):∃c cs,l=c::cs/\c.er=x/\cs.map C.er=xs:=by
  cases l with
  |nil=>simp at h
  |cons c cs=>simp at h;exact⟨c,cs,rfl,h.1,h.2⟩
def AQ{w w':World}{s:ByteArray}(h:s.size<=9223372036854775807):kG w w' (.str s):=⟨λ_=>h,trivial,λ_ _ h=>h.elim⟩
def ab6{w w':World}{k:IntKind}{n:Int}:kG w w' (.int k n):=⟨λ_=>trivial,trivial,λ_ _ h=>h.elim⟩
def EX{w w':World}{b:Bool}:kG w w' (.bool b):=⟨λ_=>trivial,trivial,λ_ _ h=>h.elim⟩
def mz(l:List C):C:=.ak l.length λj=>l.getD j (.dead undef)
def MC{α β:Type}(l:List α)(d:α)(g:α->β):((List.range l.length).map λj=>g (l.getD j d))=l.map g:=by
  apply List.ext_getElem;· simp
  · intro i h1 h2
    simp at h1
    simp[h1]
def Ng(l:List C):(mz l).er=.ak (l.map C.er):=by show X.ak _=_;rw[MC l _ C.er]
def Nh(l:List C):(mz l).val=.tuple (l.map C.val).toArray:=by show Value.tuple _=_;rw[MC l _ C.val]
def JZ{w w':World}{l:List C}(h:∀c∈l,kG w w' c/\c.fX/\∀b k,¬c.fp b k):kG w w' (mz l):=by
  have hm:∀j,j<l.length->l.getD j (.dead undef)∈l:=λj hj=>by simp[List.getD,hj]
  refine⟨λZ=>⟨λj hj=>⟨(h _ (hm j hj)).2.1,(h _ (hm j hj)).1.1 Z⟩,λj hj b k hf=>((h _ (hm j hj)).2.2 b k hf).elim⟩,λj hj=>(h _ (hm j hj)).1.2.1,λb k hf=>?_⟩;obtain⟨j,hj,hf⟩:=hf;exact((h _ (hm j hj)).2.2 b k hf).elim
def ab7{w w':World}{g:Nat}{t:TypeId}{l:List ByteArray}(hg:w.heap.size<=g)(hb:w'.heap[g]?=some (.cells (l.map Value.string).toArray t (0,0)))(hs:∀s∈l,s.size<=9223372036854775807):
    kG w w' (.row .own 1 (some (g,0,none)) l.length l.length λi _=>.str (l.getD i ByteArray.empty)):=by
  have hm:∀j,j<l.length->l.getD j ByteArray.empty∈l:=λj hj=>by simp[List.getD,hj]
  refine⟨λZ=>⟨dc _,λi j hi hj=>⟨g,0,rfl,?_,λh=>absurd rfl h⟩,λi j hi hj=>⟨trivial,trivial,trivial,hs _ (hm i hi)⟩,λ_=>.inr ⟨g,0,_,t,(0,0),rfl,hb,?_,λk _ _=>?_⟩,λi j hi hj b k hf=>hf.elim⟩,trivial,λb k hf=>?_⟩
  · obtain rfl:j=0:=by omega
    simp only[World.cell?,hb]
    simp[C.val,hi,Go.Value.oneCell']
  · simp
  · simp[World.frozen?,hb]
  · obtain⟨_,h|⟨i,j,_,_,h⟩⟩:=hf
    · obtain⟨o,h⟩:=h
      have hgb:=dB Prod.fst (iC h)
      have hgb:g=b:=hgb;exact hgb▸hg
    · exact h.elim
def agO(l:List ByteArray)(g cap:Nat):(C.row .own 1 (some (g,0,none)) l.length cap λi _=>.str (l.getD i ByteArray.empty)).er=.row .own 1 (l.map λs=>[.str s]):=by show X.row _ _ _=_;congr 1;have:=MC l ByteArray.empty λs=>[X.str s];rw[<-this];rfl
def uZ{c:C}{m:Md}{z:Nat}{xs:List (List X)}(h:c.er=.row m z xs):∃A len cap e,c=.row m z A len cap e/\len=xs.length/\∀i,i<len->xs[i]?=some ((List.range z).map λj=>(e i j).er):=by
  cases c with
  |row m' z' A len cap e=>simp only[C.er,X.row.injEq] at h;obtain⟨rfl,rfl,h⟩:=h;refine⟨A,len,cap,e,rfl,by rw[<-h];simp,λi hi=>?_⟩;rw[<-h];simp[hi]
  |_=>simp[C.er] at h
end M
set_option linter.unusedVariables false
set_option linter.unusedSimpArgs false
namespace M
open Go
def sj(s:ah):X:=.str ⟨s.toArray⟩
def Hy(l:List ah):X:=.row .own 1 (l.map eS)
def HR:List X->Option X
  |[.str s,.str c]=>if c.data.toList=[32]/\s.size<=9223372036854775807 then some (sj (jx s.data.toList)) else none
  |_=>none
def Dk:List X->Option X
  |[.str s,.str c]=>if s.size<4294967281/\1<=c.size then some (Hy (Lib.split s.data.toList c.data.toList)) else none
  |_=>none
def Ey:List X->Option X
  |[.str s,.str c]=>if s.size<4294967281 then some (.ak [sj (Lib.cut s.data.toList c.data.toList).1,sj (Lib.cut s.data.toList c.data.toList).2.1,.bool (Lib.cut s.data.toList c.data.toList).2.2]) else none
  |_=>none
def Fa:List X->Option X
  |[.str s,.str c]=>some (.bool (Lib.hasPrefix s.data.toList c.data.toList))
  |_=>none
def Ez:List X->Option X
  |[.str s,.str c]=>if s.size<=9223372036854775807 then some (.ak [sj (Lib.trimPrefix s.data.toList c.data.toList),.bool (Lib.hasPrefix s.data.toList c.data.toList)]) else none
  |_=>none
def Ho:List X->Option X
  |[.str s]=>if s.size<=9223372036854775807 then some (match cz s.data.toList with
    |some n=>.ak [.int .i64 n,.bool true]
    |none=>.ak [.int .i64 0,.bool false]) else none
  |_=>none
def JN(f:aM):ah:=f.name++[58,32]++f.value++[13,10]
def kP(l:List aM):ah:=l.flatMap JN
def tn:List (List X)->Option (List aM)
  |[]=>some []
  |[.str a,.str b]::r=>(tn r).map λl=>⟨a.data.toList,b.data.toList⟩::l
  |_=>none
def EN:List X->Option X
  |[.row .af 2 rows]=>(match tn rows with
    |some l=>if (kP l).length<=140737488355328/\l.length<=140737488355328 then some (sj (kP l)) else none
    |none=>none)
  |_=>none
def QT:∀l:List aM,tn (l.map aW)=some l
  |[]=>rfl
  |f::l=>by simp[tn,QT l]
def count_nil(c:UInt8):Lib.count [] [c]=0:=by rw[Lib.count_one];rfl
def ahy(c:UInt8):∀s:ah,Lib.split s [c]=cu c s:=by
  have key:∀(n:Nat) (s:ah),s.length<=n->Lib.splitK [c] 0 (Lib.count s [c]) s=cu c s:=by
    intro n;induction n with
    |zero=>intro s hs;obtain rfl:s=[]:=Iu.1 (by omega);rw[count_nil];rfl
    |succ n ih=>
      intro s hs;cases s with
      |nil=>rw[count_nil];rfl
      |cons b s=>
        simp at hs;have GI:=ih s (by omega);by_cases hb:b=c
        · subst hb
          rw[Lib.count_cons_eq,sG]
          have hi:Lib.index (b::s) [b]=0:=Lib.index_first (i:=0) (uA _) (by simp[Lib.occAt]) (λ_ h=>absurd h (Nat.not_lt_zero _))
          simp only[Lib.splitK,hi,cu]
          simp[GI]
        · rw[Lib.count_cons_ne _ _ _ hb]
          have hnext:Lib.index (b::s) [c]=if Lib.index s [c]=-1 then -1 else Lib.index s [c]+1:=by
            have h:=Lib.index_drop (s:=b::s) (sub:=[c]) (i:=1) (λj hj=>by
              obtain rfl:j=0:=by omega
              simp[Lib.occAt,List.isPrefixOf,wP hb]) (by simp)
            simp at h;exact h
          rw[cu,ay hb,<-GI]
          cases hk:Lib.count s [c] with
          |zero=>simp[Lib.splitK]
          |succ k=>
            simp only[Lib.splitK,hnext]
            by_cases h1:Lib.index s [c]=-1
            · simp[h1]
            · have h0:0<=Lib.index s [c]:=by
                have:-1<=Lib.index s [c]:=Lib.index_ge _ _
                omega
              have h2:¬Lib.index s [c]+1=-1:=by omega
              have h3:(Lib.index s [c]+1).toNat=(Lib.index s [c]).toNat+1:=by omega
              simp[h1,h2,h3]
  intro s;exact key s.length s (dc _)
def eC(c:UInt8):ah->Option (ah×ah)
  |[]=>none
  |b::s=>if b=c then some ([],s) else (eC c s).map λp=>(b::p.1,p.2)
def adU(b c:UInt8)(s:ah):Lib.index (b::s) [c]=if b=c then 0 else if Lib.index s [c]=-1 then -1 else Lib.index s [c]+1:=by
  by_cases hb:b=c
  · subst hb
    rw[aq rfl]
    exact Lib.index_first (i:=0) (uA _) (by simp[Lib.occAt]) (λ_ h=>absurd h (Nat.not_lt_zero _))
  · rw[ay hb]
    have h:=Lib.index_drop (s:=b::s) (sub:=[c]) (i:=1) (λj hj=>by
      obtain rfl:j=0:=by omega
      simp[Lib.occAt,List.isPrefixOf,wP hb]) (by simp)
    simp at h
    exact h
def EB(c:UInt8):∀s:ah,Lib.cut s [c]=match eC c s with
    |some p=>(p.1,p.2,true)
    |none=>(s,[],false)
  |[]=>rfl
  |b::s=>by
    have ih:=EB c s;have h0:-1<=Lib.index s [c]:=Lib.index_ge _ _;unfold Lib.cut at ih⊢;rw[adU,eC];by_cases hb:b=c;· simp[hb]
    · simp only[hb,iD]
      by_cases h1:Lib.index s [c]=-1
      · rw[h1] at ih
        simp only[h1]
        cases hc:eC c s with
        |none=>simp
        |some p=>rw[hc] at ih;simp at ih
      · have h2:0<=Lib.index s [c]:=by omega
        rw[aq h2] at ih
        rw[ay h1,aq (by omega)]
        have h3:(Lib.index s [c]+1).toNat=(Lib.index s [c]).toNat+1:=by omega
        cases hc:eC c s with
        |none=>rw[hc] at ih;simp at ih
        |some p=>
          rw[hc] at ih
          simp at ih
          simp[h3,<-ih.1,<-ih.2]
end M
set_option linter.unusedVariables false
set_option linter.unusedSimpArgs false
namespace M
open Go
def HH(c:UInt8):∀(cur rest:ah),(∀b∈cur,b≠c)->cu c (cur++rest)=match cu c rest with
    |w::ws=>(cur++w)::ws
    |[]=>[cur]
  |[],rest,_=>by
    cases h:cu c rest with
    |nil=>exact absurd h (HI c rest)
    |cons w ws=>simpa using h
  |a::cur,rest,h=>by rw[gS,cu,ay (h a (bE ..)),HH c cur rest λb hb=>h b (cI _ hb)];cases cu c rest<;>simp
def Uc(c:UInt8)(cur:ah)(h:∀b∈cur,b≠c):cu c cur=[cur]:=by have:=HH c cur [] h;simpa [cu] using this
def akt(s:ah):mB s=(cu 44 s).flatMap λw=>if jx w≠[] then [jx w] else []:=by
  unfold mB;induction cu 44 s with
  |nil=>rfl
  |cons w l ih=>simp only[bC,DR,kE,<-ih];by_cases h:jx w=[]<;>simp[h]
@[simp] def amr(l:List UInt8):l.map (λb:UInt8=>[X.int IntKind.u8 (b.toNat:Int)])=l.map eU:=rfl
@[simp] def aoQ(l:List UInt8):wB (l.map eU)=some l:=akf l
def M4(c:UInt8):∀s:ah,((cu c s).map List.length).sum+(cu c s).length=s.length+1
  |[]=>rfl
  |b::s=>by
    have:=M4 c s;unfold cu;split;· simp;omega
    · cases h:cu c s with
      |nil=>exact absurd h (HI c s)
      |cons w ws=>rw[h] at this;simp at this⊢;omega
def Ub(c:UInt8)(s:ah):(cu c s).length<=s.length+1:=by have:=M4 c s;omega
def zA(c:UInt8)(s:ah):∀w∈cu c s,w.length<=s.length:=by
  intro w hw;have h:=M4 c s
  have h1:w.length+1<=((cu c s).map List.length).sum+(cu c s).length:=by
    clear h;revert hw;generalize cu c s=l;intro hw;induction l with
    |nil=>cases hw
    |cons x l ih=>
      rcases bM.1 hw with rfl|hw;· simp;omega
      · have:=ih hw;simp;omega
  omega
def aeA(b:UInt8)(h:65<=b.toNat/\b.toNat<=90):(b+32).toNat=b.toNat+32:=by rw[UInt8.toNat_add];have:(32:UInt8).toNat=32:=rfl;omega
def akw{n:Int}(h1:0<=n)(h2:n<256):IntKind.u8.wrap n=n:=akx h1 h2
end M
namespace M
def QN{β γ:Type}(φ:β->List γ)(hφ:∀b,(φ b).length<=1)(l:List β)(i:Nat):((l.take i).flatMap φ).length<=i:=by
  induction l generalizing i with
  |nil=>simp
  |cons b l ih=>
    cases i with
    |zero=>simp
    |succ i=>have:=ih i;have:=hφ b;simp only[List.take_succ_cons,kE,gT];omega
end M
namespace M
@[simp] def alv(i:Nat):((i:Int)<0)=False:=by simp
end M
namespace M
def SK{α:Type}(f:α->α)(l:List α)(i:Nat):List α:=(l.take i).map f++l.drop i
@[simp] def anG{α:Type}(f:α->α)(l:List α)(i:Nat):(SK f l i).length=l.length:=by simp[SK];omega
end M
namespace M
@[simp] def aeD(m:Md):∀(i:Nat) (l:List (List X)),X.cl m (l.take i)=(X.cl m l).take i
  |0,l=>by simp[X.cl]
  |i+1,[]=>by simp[X.cl]
  |i+1,a::l=>by simp[X.cl,aeD m i l]
@[simp] def aeC(m:Md):∀(i:Nat) (l:List (List X)),X.cl m (l.drop i)=(X.cl m l).drop i
  |0,l=>by simp
  |i+1,[]=>by simp[X.cl]
  |i+1,a::l=>by simp[X.cl,aeC m i l]
end M
set_option linter.unusedVariables false
set_option linter.unusedSimpArgs false
namespace M
open Go
abbrev fI:ah:=[99,111,110,116,101,110,116,45,108,101,110,103,116,104]
abbrev rW:ah:=[99,97,99,104,101,45,99,111,110,116,114,111,108]
abbrev rX:ah:=[101,116,97,103]
abbrev ld:ah:=[118,97,114,121]
abbrev gJ:ah:=[97,103,101]
abbrev yZ:ah:=[105,102,45,110,111,110,101,45,109,97,116,99,104]
def Nn{l:List ah}{a:ah}(h:a∈l):a.length<=wL wS l:=gB (w:=wS) h
def UH{l:List aM}{a:aM}(h:a∈l):a.name.length+a.value.length<=wL aL l:=gB (w:=aL) h
def kI(fs:List aM)(n:ah):Option (Nat×aM):=cS (λf=>decide (f.name=n)) 0 fs
def pg(o:Option (Nat×aM)):Int:=o.elim (-1) λx=>(x.1:Int)
def dS(fs:List aM)(n:ah):Option ah:=(kI fs n).map λx=>x.2.value
def IP{fs:List aM}{n:ah}{i:Nat}{f:aM}(h:kI fs n=some (i,f)):∃hi:i<fs.length,fs[i]=f/\f.name=n:=by obtain⟨_,h2,h3⟩:=q9 h;simp at h2 h3;obtain⟨hi,e⟩:=aQ.1 h2;exact⟨hi,e,h3⟩
def ve(fs:List aM)(n:ah):((dS fs n).getD []).length<=wL aL fs:=by
  unfold dS;cases h:kI fs n with
  |none=>simp
  |some x=>obtain⟨i,f⟩:=x;obtain⟨hi,rfl,_⟩:=IP h;have:=UH (cB hi);simp;omega
def rj(fs:List aM)(x:aM×Nat):Bool:=gR x.1.name && jA x.1.value && decide (pg (kI fs x.1.name)=x.2) && !decide (x.1.name=fI)
def mQ(fs:List aM):Bool:=bq (rj fs) fs.zipIdx && decide ((fs.length:Int)<=8)
def iM(fs:List aM)(n v:ah):List aM:=match kI fs n with
  |some x=>fs.set x.1 ⟨x.2.name,v⟩
  |none=>fs++[⟨n,v⟩]
def Ul{α:Type}(w:α->Nat):∀(l:List α) (i:Nat) (a:α) (h:i<l.length),((l.set i a).map w).sum+w l[i]=(l.map w).sum+w a
  |b::l,0,a,_=>by simp;omega
  |b::l,i+1,a,h=>by have:=Ul w l i a (by simpa using h);simp at this⊢;omega
def Dh(fs:List aM)(n v:ah):wL aL (iM fs n v)<=wL aL fs+n.length+v.length+1:=by
  unfold iM;cases h:kI fs n with
  |none=>simp[wL,aL];omega
  |some x=>obtain⟨i,f⟩:=x;obtain⟨hi,rfl,h3⟩:=IP h;have:=Ul aL fs i ⟨fs[i].name,v⟩ hi;simp only[wL,Iv];simp only[aL] at this⊢;omega
def ags(fs:List aM)(n v:ah):(iM fs n v).length<=fs.length+1:=by
  unfold iM;cases h:kI fs n with
  |none=>simp
  |some x=>simp
def fA(r:aV):Bool:=decide (100<=r.status/\r.status<=599) && mQ r.fields && decide ((r.body.length:Int)<=120)
def kr(q:Rq):Bool:=decide (1<=q.method/\q.method<=4) && lg q.path && mQ q.fields && decide ((q.body.length:Int)<=120)
def within(n:Int):Int:=max 0 (min n 1000000)
def plus(a b:Int):Int:=within (within a+within b)
def since(t now:Int):Int:=if now<=t then 0 else min (now - t) 1000000
def IF(fs:List aM):Int:=match dS fs gJ with
  |some v=>match cz v with
    |some n=>n
    |none=>1000000
  |none=>0
def gU(fs:List aM)(t now:Int):Int:=plus (IF fs) (since t now)
def eL(fs:List aM):List ah:=(mB ((dS fs ld).getD [])).map dw
def qk(l:List ah):Bool:=bq gR l && decide ((l.length:Int)<=4)
def wk(q:Rq)(fs:List aM):Bool:=(dS q.fields yZ).isSome && (dS fs rX).isSome && decide ((dS q.fields yZ).getD []=(dS fs rX).getD [])
def iO(f:aM):Bool:=decide (f.name=rX)||decide (f.name=ld)||decide (f.name=rW)
def qB(r:aV):aV:=⟨304,r.fields.filter iO,[]⟩
def dy(o:Ob):Bool:=fA o.resp && lg o.path && decide (0<=o.t/\o.t<=1000000) && qk o.names && decide (o.names=eL o.resp.fields) && decide (o.values.length=o.names.length) && bq jA o.values
def eX(b:Bn):Bool:=decide (0<=b.t/\b.t<=1000000) && (if b.kind=1\/b.kind=2 then lg b.a && decide (b.b=[]) else if b.kind=3 then gR b.a && jA b.b else false)
def vh(b:Bn)(o:Ob):Bool:=decide (o.t<=b.t) && eX b && dy o && (if b.kind=1 then decide (o.path=b.a) else if b.kind=2 then b.a.isPrefixOf o.path else decide (dS o.resp.fields b.a=some b.b))
def fT(l:List Bn)(o:Ob):Bool:=l.any λb=>vh b o
def vX(w:Wr):Bool:=decide (0<=w.at_/\w.at_<=19)
def eR(d:bR):Bool:=bq vX d.pending && decide ((d.cells.length:Int)=20) && decide ((d.pending.length:Int)<=16)
def nD(l:List Kp)(i:Nat):Int:=if i=0 then 0 else (l[i - 1]?.map λk=>k.seq).getD 0
def yL(S:Int)(l:List Kp)(x:Kp×Nat):Bool:=dy x.1.obj && decide (5<=x.1.at_/\x.1.at_<=19) && bq (λy=>decide ¬y.at_=x.1.at_) (l.take x.2) && decide (nD l x.2<x.1.seq) && decide (x.1.seq<S)
def uj(S:Int)(l:List Kp):Bool:=bq (yL S l) l.zipIdx
def Mz(l:List Kp)(i:Nat)(h:i<l.length):nD l (i+1)=l[i].seq:=by simp[nD,h]
def QI{β:Type}(p:β->Bool):∀(l:List β) (k:Nat),(cS p k l).isSome= !bq (λb=> !p b) l
  |[],_=>rfl
  |b::l,k=>by
    unfold cS bq;by_cases h:p b=true;· simp[h]
    · have:=QI p l (k+1)
      unfold bq at this
      simp[h,this]
def sy{l:List Kp}{k:Kp}(h:k∈l):aU k.obj<=wL cQ l:=gB (w:=cQ) h
def UF{l:List Bn}{b:Bn}(h:b∈l):bz b<=wL bz l:=gB (w:=bz) h
def eT(s:Sh):Bool:=eR s.aP && decide ((s.aG.length:Int)<=5) && decide (5<=s.next/\s.next<=19) && decide (1<=s.seq/\s.seq<=100000) && bq eX s.aG && uj s.seq s.aC
def answer(q:Rq)(o:Ob)(now:Int):aV:=
  let out:=if wk q o.resp.fields=true then qB o.resp else o.resp
  let w:aV:=⟨out.status,iM out.fields gJ (dn (gU o.resp.fields o.t now)),out.body⟩
  if fA w=true then w else out
def MU(r:aV):wL aL (r.fields.filter iO)<=wL aL r.fields:=by
  unfold wL;have h1:=Ol iO r.fields
  have h2:((r.fields.filter iO).map aL).sum<=(r.fields.map aL).sum:=by
    generalize r.fields=l;induction l with
    |nil=>simp
    |cons a l ih=>rw[DR];split<;>simp<;>omega
  omega
end M
set_option linter.unusedVariables false
set_option linter.unusedSimpArgs false
namespace M
open Go
def gA(_:Int)(k:Int):Int:=k
def eO(_:ah)(k:Int):ah:=CU k
def SP(_:Bool)(k:Int):Bool:=decide (k.tmod 3=0)
def bF{α:Type}(_:α):Nat:=1
def ei{α:Type}(mk:α->Int->α)(n:α->Nat):List α->Int->List α
  |[],_=>[]
  |a::l,k=>mk a k::ei mk n l (k+(n a:Nat))
def nL{α:Type}(n:α->Nat)(l:List α):Nat:=(l.map n).sum
@[simp] def aeI{α:Type}(mk:α->Int->α)(n:α->Nat):∀(l:List α) (k:Int),(ei mk n l k).length=l.length
  |[],_=>rfl
  |a::l,k=>by simp[ei,aeI mk n l]
def qj(a:aM)(k:Int):aM:=⟨eO a.name (k),eO a.value (k+1)⟩
def bA(a:aM):Nat:=2
def aeO(a:Wr)(k:Int):Wr:=⟨gA a.at_ (k),eO a.text (k+1)⟩
def PO(a:Wr):Nat:=2
def aeL(a:Kp)(k:Int):Kp:=⟨⟨eO a.obj.path (k),ei eO bF a.obj.names (k+1),ei eO bF a.obj.values (k+1+(nL bF a.obj.names:Nat)),⟨gA a.obj.resp.status (k+1+(nL bF a.obj.names:Nat)+(nL bF a.obj.values:Nat)),ei qj bA a.obj.resp.fields (k+1+(nL bF a.obj.names:Nat)+(nL bF a.obj.values:Nat)+1),eO a.obj.resp.body (k+1+(nL bF a.obj.names:Nat)+(nL bF a.obj.values:Nat)+1+(nL bA a.obj.resp.fields:Nat))⟩,gA a.obj.t (k+1+(nL bF a.obj.names:Nat)+(nL bF a.obj.values:Nat)+1+(nL bA a.obj.resp.fields:Nat)+1)⟩,gA a.at_ (k+1+(nL bF a.obj.names:Nat)+(nL bF a.obj.values:Nat)+1+(nL bA a.obj.resp.fields:Nat)+1+1),gA a.seq (k+1+(nL bF a.obj.names:Nat)+(nL bF a.obj.values:Nat)+1+(nL bA a.obj.resp.fields:Nat)+1+1+1)⟩
def Ju(a:Kp):Nat:=6+nL bF a.obj.names+nL bF a.obj.values+nL bA a.obj.resp.fields
def aeJ(a:Bn)(k:Int):Bn:=⟨gA a.kind (k),eO a.a (k+1),eO a.b (k+1+1),gA a.t (k+1+1+1)⟩
def PL(a:Bn):Nat:=4
def aeK(a:Fl)(k:Int):Fl:=⟨⟨gA a.q.method (k),eO a.q.path (k+1),ei qj bA a.q.fields (k+1+1),eO a.q.body (k+1+1+(nL bA a.q.fields:Nat))⟩,ei gA bF a.who (k+1+1+(nL bA a.q.fields:Nat)+1),⟨eO a.old.path (k+1+1+(nL bA a.q.fields:Nat)+1+(nL bF a.who:Nat)),ei eO bF a.old.names (k+1+1+(nL bA a.q.fields:Nat)+1+(nL bF a.who:Nat)+1),ei eO bF a.old.values (k+1+1+(nL bA a.q.fields:Nat)+1+(nL bF a.who:Nat)+1+(nL bF a.old.names:Nat)),⟨gA a.old.resp.status (k+1+1+(nL bA a.q.fields:Nat)+1+(nL bF a.who:Nat)+1+(nL bF a.old.names:Nat)+(nL bF a.old.values:Nat)),ei qj bA a.old.resp.fields (k+1+1+(nL bA a.q.fields:Nat)+1+(nL bF a.who:Nat)+1+(nL bF a.old.names:Nat)+(nL bF a.old.values:Nat)+1),eO a.old.resp.body (k+1+1+(nL bA a.q.fields:Nat)+1+(nL bF a.who:Nat)+1+(nL bF a.old.names:Nat)+(nL bF a.old.values:Nat)+1+(nL bA a.old.resp.fields:Nat))⟩,gA a.old.t (k+1+1+(nL bA a.q.fields:Nat)+1+(nL bF a.who:Nat)+1+(nL bF a.old.names:Nat)+(nL bF a.old.values:Nat)+1+(nL bA a.old.resp.fields:Nat)+1)⟩,SP a.fO (k+1+1+(nL bA a.q.fields:Nat)+1+(nL bF a.who:Nat)+1+(nL bF a.old.names:Nat)+(nL bF a.old.values:Nat)+1+(nL bA a.old.resp.fields:Nat)+1+1)⟩
def Jt(a:Fl):Nat:=8+nL bA a.q.fields+nL bF a.who+nL bF a.old.names+nL bF a.old.values+nL bA a.old.resp.fields
def aeN(a:Se)(k:Int):Se:=⟨⟨gA a.q.method (k),eO a.q.path (k+1),ei qj bA a.q.fields (k+1+1),eO a.q.body (k+1+1+(nL bA a.q.fields:Nat))⟩,⟨gA a.resp.status (k+1+1+(nL bA a.q.fields:Nat)+1),ei qj bA a.resp.fields (k+1+1+(nL bA a.q.fields:Nat)+1+1),eO a.resp.body (k+1+1+(nL bA a.q.fields:Nat)+1+1+(nL bA a.resp.fields:Nat))⟩,gA a.t (k+1+1+(nL bA a.q.fields:Nat)+1+1+(nL bA a.resp.fields:Nat)+1)⟩
def PN(a:Se):Nat:=6+nL bA a.q.fields+nL bA a.resp.fields
def aeM(a:Rp)(k:Int):Rp:=⟨gA a.client (k),⟨gA a.q.method (k+1),eO a.q.path (k+1+1),ei qj bA a.q.fields (k+1+1+1),eO a.q.body (k+1+1+1+(nL bA a.q.fields:Nat))⟩,⟨gA a.resp.status (k+1+1+1+(nL bA a.q.fields:Nat)+1),ei qj bA a.resp.fields (k+1+1+1+(nL bA a.q.fields:Nat)+1+1),eO a.resp.body (k+1+1+1+(nL bA a.q.fields:Nat)+1+1+(nL bA a.resp.fields:Nat))⟩,gA a.kind (k+1+1+1+(nL bA a.q.fields:Nat)+1+1+(nL bA a.resp.fields:Nat)+1),gA a.t (k+1+1+1+(nL bA a.q.fields:Nat)+1+1+(nL bA a.resp.fields:Nat)+1+1),⟨eO a.obj.path (k+1+1+1+(nL bA a.q.fields:Nat)+1+1+(nL bA a.resp.fields:Nat)+1+1+1),ei eO bF a.obj.names (k+1+1+1+(nL bA a.q.fields:Nat)+1+1+(nL bA a.resp.fields:Nat)+1+1+1+1),ei eO bF a.obj.values (k+1+1+1+(nL bA a.q.fields:Nat)+1+1+(nL bA a.resp.fields:Nat)+1+1+1+1+(nL bF a.obj.names:Nat)),⟨gA a.obj.resp.status (k+1+1+1+(nL bA a.q.fields:Nat)+1+1+(nL bA a.resp.fields:Nat)+1+1+1+1+(nL bF a.obj.names:Nat)+(nL bF a.obj.values:Nat)),ei qj bA a.obj.resp.fields (k+1+1+1+(nL bA a.q.fields:Nat)+1+1+(nL bA a.resp.fields:Nat)+1+1+1+1+(nL bF a.obj.names:Nat)+(nL bF a.obj.values:Nat)+1),eO a.obj.resp.body (k+1+1+1+(nL bA a.q.fields:Nat)+1+1+(nL bA a.resp.fields:Nat)+1+1+1+1+(nL bF a.obj.names:Nat)+(nL bF a.obj.values:Nat)+1+(nL bA a.obj.resp.fields:Nat))⟩,gA a.obj.t (k+1+1+1+(nL bA a.q.fields:Nat)+1+1+(nL bA a.resp.fields:Nat)+1+1+1+1+(nL bF a.obj.names:Nat)+(nL bF a.obj.values:Nat)+1+(nL bA a.obj.resp.fields:Nat)+1)⟩,gA a.aG (k+1+1+1+(nL bA a.q.fields:Nat)+1+1+(nL bA a.resp.fields:Nat)+1+1+1+1+(nL bF a.obj.names:Nat)+(nL bF a.obj.values:Nat)+1+(nL bA a.obj.resp.fields:Nat)+1+1)⟩
def YR(a:Rp):Nat:=13+nL bA a.q.fields+nL bA a.resp.fields+nL bF a.obj.names+nL bF a.obj.values+nL bA a.obj.resp.fields
def Ds(a:Rq)(k:Int):Rq:=⟨a.method,a.path,ei qj bA a.fields (k),a.body⟩
@[simp] def aoJ(a:Rq)(k:Int):(Ds a k).method=a.method:=rfl
@[simp] def aoK(a:Rq)(k:Int):(Ds a k).path=a.path:=rfl
@[simp] def aoI(a:Rq)(k:Int):(Ds a k).body=a.body:=rfl
def M9(a:Rq):Nat:=nL bA a.fields
def zG(a:aV)(k:Int):aV:=⟨a.status,ei qj bA a.fields (k),a.body⟩
@[simp] def aoM(a:aV)(k:Int):(zG a k).status=a.status:=rfl
@[simp] def aoL(a:aV)(k:Int):(zG a k).body=a.body:=rfl
def ahN(a:aV):Nat:=nL bA a.fields
def M7(a:Ob)(k:Int):Ob:=⟨a.path,ei eO bF a.names (k),ei eO bF a.values (k+(nL bF a.names:Nat)),zG a.resp (k+(nL bF a.names:Nat)+(nL bF a.values:Nat)),a.t⟩
@[simp] def aoF(a:Ob)(k:Int):(M7 a k).path=a.path:=rfl
@[simp] def aoG(a:Ob)(k:Int):(M7 a k).resp=zG a.resp (k+(nL bF a.names:Nat)+(nL bF a.values:Nat)):=rfl
@[simp] def aoH(a:Ob)(k:Int):(M7 a k).t=a.t:=rfl
def Us(a:bR)(k:Int):bR:=⟨ei eO bF a.cells (k),ei aeO PO a.pending (k+(nL bF a.cells:Nat))⟩
def M8(a:bR):Nat:=nL bF a.cells+nL PO a.pending
def Dt(a:Sh)(k:Int):Sh:=⟨Us a.aP (k),ei aeL Ju a.aC (k+(M8 a.aP:Nat)),ei aeJ PL a.aG (k+(M8 a.aP:Nat)+(nL Ju a.aC:Nat)),a.next,a.seq⟩
@[simp] def aoN(a:Sh)(k:Int):(Dt a k).aP=Us a.aP (k):=rfl
@[simp] def aoO(a:Sh)(k:Int):(Dt a k).next=a.next:=rfl
@[simp] def aoP(a:Sh)(k:Int):(Dt a k).seq=a.seq:=rfl
def Na(a:Sh):Nat:=M8 a.aP+nL Ju a.aC+nL PL a.aG
def Ur(a:Ca)(k:Int):Ca:=⟨Dt a.ai (k),ei aeK Jt a.aF (k+(Na a.ai:Nat)),a.now,ei aeN PN a.seen (k+(Na a.ai:Nat)+(nL Jt a.aF:Nat)),ei aeM YR a.sent (k+(Na a.ai:Nat)+(nL Jt a.aF:Nat)+(nL PN a.seen:Nat))⟩
@[simp] def aoy(a:Ca)(k:Int):(Ur a k).ai=Dt a.ai (k):=rfl
@[simp] def aox(a:Ca)(k:Int):(Ur a k).now=a.now:=rfl
def zE(a:De)(k:Int):De:=⟨a.kind,a.client,Ds a.q (k),a.a,zG a.resp (k+(M9 a.q:Nat)),a.iH,ei SP bF a.keep (k+(M9 a.q:Nat)+(ahN a.resp:Nat))⟩
@[simp] def aoC(a:De)(k:Int):(zE a k).kind=a.kind:=rfl
@[simp] def aoB(a:De)(k:Int):(zE a k).client=a.client:=rfl
@[simp] def aoD(a:De)(k:Int):(zE a k).q=Ds a.q (k):=rfl
@[simp] def aoz(a:De)(k:Int):(zE a k).a=a.a:=rfl
@[simp] def aoE(a:De)(k:Int):(zE a k).resp=zG a.resp (k+(M9 a.q:Nat)):=rfl
@[simp] def aoA(a:De)(k:Int):(zE a k).iH=a.iH:=rfl
end M
set_option linter.unusedVariables false
set_option linter.unusedSimpArgs false
namespace M
open Go Go.RowKit
def o9.cell[B:Bs]{w:World}(h:o9 w){b k:Nat}{v:Value}(hc:B.W0.cell? ⟨b,k,none⟩=some v):w.cell? ⟨b,k,none⟩=some v:=by
  have hb:b<B.W0.heap.size:=by
    rcases gb b B.W0.heap.size with h|h;· exact h
    · simp[World.cell?,jW h] at hc
  have e:=h b hb;simpa [World.cell?,e] using hc
def Xd(w:World):Below w.heap.size w w.drew:=(Below.refl _ _).drew
def Xe(w:World):∀n,Below w.heap.size w (w.drewN n):=λn=>⟨rfl,rfl,rfl,dc _,λ_ _=>rfl⟩
def Dv{cs:List C}{s c:ByteArray}(h:cs.map C.er=[.str s,.str c]):cs=[.str s,.str c]:=by obtain⟨a,r,rfl,h1,h2⟩:=map_cons h;obtain⟨b,r',rfl,h3,h4⟩:=map_cons h2;obtain rfl:=map_nil h4;rw[kO h1,kO h3]
def afE{cs:List C}{s:ByteArray}(h:cs.map C.er=[.str s]):cs=[.str s]:=by obtain⟨a,r,rfl,h1,h2⟩:=map_cons h;obtain rfl:=map_nil h2;rw[kO h1]
def akc[Bs]{P:Program}{f0:FuncId}(hc:∀(s:ByteArray) (c:UInt8),c.toNat<128->∀w,s.size<=9223372036854775807->
    Calls P f0 #[.string s,.string ⟨#[c]⟩] w λe w'=>e=.returned (.string ⟨(Lib.trimB s.data.toList c).toArray⟩)/\(w'=w\/w'=w.drew)):(dx f0 HR).Sound P:=
  vR λxs r hg w zl zb cs hx hA hs=>by
    unfold HR at hg;split at hg
    · rename_i s c
      split at hg
      · rename_i hh
        cases hg
        obtain rfl:=Dv hx
        have e:c=⟨#[32]⟩:=by have:=dB List.toArray hh.1;simp at this;cases c;simp at this;rw[this]
        subst e
        refine(hc s 32 (by decide) w hh.2).mono λe w' ⟨he,hw⟩=>⟨.str ⟨(jx s.data.toList).toArray⟩,he,rfl,?_,AQ ?_⟩
        · rcases hw with rfl|rfl
          · exact Below.refl _ _
          · exact Xd _
        · have:=Uu s.data.toList
          have h2:=hh.2
          simp only[ByteArray.size] at h2⊢
          simp at this⊢
          omega
      · cases hg
    · cases hg
def ahu[B:Bs]{P:Program}{f0:FuncId}{g1:Nat}{t9:TypeId}(hm:∃m,B.W0.cell? ⟨g1,0,none⟩=some (.int .i64 m))(hc:∀(s sep:ByteArray) (m:Int) (w:World),s.size<4294967281->w.cell? ⟨g1,0,none⟩=some (.int .i64 m)->1<=sep.size->
    Calls P f0 #[.string s,.string sep] w λe w'=>e=.returned (.slice (some ⟨w.heap.size,0,none⟩) (Lib.countB s sep+1) (Lib.countB s sep+1))/\w'=w.alloc (.cells ((Lib.splitB sep 0 (Lib.countB s sep) s).map Value.string).toArray t9)):(dx f0 Dk).Sound P:=
  vR λxs r hg w zl zb cs hx hA hs=>by
    unfold Dk at hg;split at hg
    · rename_i s c
      split at hg
      · rename_i hh
        cases hg
        obtain rfl:=Dv hx
        obtain⟨m,hm⟩:=hm
        have hlen:=Lib.splitB_all c hh.2 0 _ s rfl
        have Ry:=Lib.splitB_data c 0 (Lib.countB s c) s
        refine(hc s c m w hh.1 (hs.cell hm) hh.2).mono λe w' ⟨he,hw⟩=>?_
        subst hw
        refine⟨.row .own 1 (some (w.heap.size,0,none)) (Lib.splitB c 0 (Lib.countB s c) s).length (Lib.splitB c 0 (Lib.countB s c) s).length λi _=>.str ((Lib.splitB c 0 (Lib.countB s c) s).getD i ByteArray.empty),?_,?_,?_,?_⟩
        · rw[he,hlen];rfl
        · rw[agO]
          unfold Hy
          congr 1
          have:Lib.split s.data.toList c.data.toList=(Lib.splitB c 0 (Lib.countB s c) s).map (·.data.toList):=Ry.symm
          rw[this,cM]
          refine cv λx _=>?_
          simp
        · exact(Below.refl _ _).alloc (dc _) _
        · refine ab7 (dc _) (t:=t9) ?_ λx hx=>?_
          · show (w.heap.push _)[w.heap.size]?=_
            simp
          · have h1:x.data.toList∈Lib.splitK c.data.toList 0 (Lib.countB s c) s.data.toList:=by rw[<-Ry];exact kA hx
            have h2:∀(k:Nat) (l:List UInt8),∀y∈Lib.splitK c.data.toList 0 k l,y.length<=l.length:=by
              intro k;induction k with
              |zero=>intro l y hy;simp[Lib.splitK] at hy;rw[hy];exact dc _
              |succ k ih=>
                intro l y hy;unfold Lib.splitK at hy;split at hy;· rw[fQ.1 hy];exact dc _
                · rcases bM.1 hy with rfl|hy
                  · simp
                    omega
                  · have:=ih _ _ hy;simp at this;omega
            have h3:=h2 _ _ _ h1
            have h4:=hh.1
            have e1:s.size=s.data.toList.length:=Lib.size_eq _
            have e2:x.size=x.data.toList.length:=Lib.size_eq _
            omega
      · cases hg
    · cases hg
def EA(s c:ah):(Lib.cut s c).1.length<=s.length/\(Lib.cut s c).2.1.length<=s.length:=by
  unfold Lib.cut;split;· simp;omega
  · simp
def YX[B:Bs]{P:Program}{f0:FuncId}{g1:Nat}(hm:∃m,B.W0.cell? ⟨g1,0,none⟩=some (.int .i64 m))(hc:∀(s sep:ByteArray) (m:Int) (w:World),s.size<4294967281->w.cell? ⟨g1,0,none⟩=some (.int .i64 m)->
    Calls P f0 #[.string s,.string sep] w λe w'=>e=.returned (.tuple #[.string ⟨(Lib.cut s.data.toList sep.data.toList).1.toArray⟩,.string ⟨(Lib.cut s.data.toList sep.data.toList).2.1.toArray⟩,.bool (Lib.cut s.data.toList sep.data.toList).2.2])/\∃n,w'=w.drewN n):(dx f0 Ey).Sound P:=
  vR λxs r hg w zl zb cs hx hA hs=>by
    unfold Ey at hg;split at hg
    · rename_i s c
      split at hg
      · rename_i hh
        cases hg
        obtain rfl:=Dv hx
        obtain⟨m,hm⟩:=hm
        have hl:=EA s.data.toList c.data.toList
        refine(hc s c m w hh (hs.cell hm)).mono λe w' ⟨he,n,hw⟩=>?_
        subst hw
        refine⟨mz [.str ⟨(Lib.cut s.data.toList c.data.toList).1.toArray⟩,.str ⟨(Lib.cut s.data.toList c.data.toList).2.1.toArray⟩,.bool (Lib.cut s.data.toList c.data.toList).2.2],?_,?_,Xe _ n,JZ λx hx=>?_⟩
        · rw[he,Nh];rfl
        · rw[Ng];rfl
        · have hz:s.data.toList.length<=4294967281:=by
            have e1:s.size=s.data.toList.length:=Lib.size_eq _
            omega
          simp only[bM,mD,mI] at hx
          rcases hx with rfl|rfl|rfl
          · exact⟨AQ (by simp only[ByteArray.size,nH];omega),trivial,λ_ _ h=>h⟩
          · exact⟨AQ (by simp only[ByteArray.size,nH];omega),trivial,λ_ _ h=>h⟩
          · exact⟨EX,trivial,λ_ _ h=>h⟩
      · cases hg
    · cases hg
def ae5[B:Bs]{P:Program}{f0:FuncId}(hc:∀(s:ByteArray) (w:World),o9 w->s.size<=9223372036854775807->
    Calls P f0 #[.string s] w λe w'=>e=.returned (.tuple #[.int .i64 (((cz s.data.toList).getD 0:Nat):Int),.bool (cz s.data.toList).isSome])/\Below w.heap.size w w'):(dx f0 Ho).Sound P:=
  vR λxs r hg w zl zb cs hx hA hs=>by
    unfold Ho at hg;split at hg
    · rename_i s
      split at hg
      · rename_i hh
        cases hg
        obtain rfl:=afE hx
        refine(hc s w hs hh).mono λe w' ⟨he,hw⟩=>?_
        refine⟨mz [.int .i64 (((cz s.data.toList).getD 0:Nat):Int),.bool (cz s.data.toList).isSome],?_,?_,hw,JZ λx hx=>?_⟩
        · rw[he,Nh];rfl
        · rw[Ng];cases cz s.data.toList<;>rfl
        · simp only[bM,mD,mI] at hx
          rcases hx with rfl|rfl
          · exact⟨ab6,trivial,λ_ _ h=>h⟩
          · exact⟨EX,trivial,λ_ _ h=>h⟩
      · cases hg
    · cases hg
def adZ[B:Bs]{P:Program}{f0:FuncId}(htab:Lib.TabIs P B.W0 "internal/strconv.uint64pow10" .u64 Lib.pow10Tab) (hc:∀(n:Int),-9223372036854775808<=n->n<=9223372036854775807->∀w,Lib.TabIs P w "internal/strconv.uint64pow10" .u64 Lib.pow10Tab->
    Calls P f0 #[.int .i64 n] w λe w'=>e=.returned (.string ⟨(Lib.itoa n).toArray⟩)/\∃k os,w'=Sort.grow (w.drewN k) os):(iy f0 CH).Sound P:=
  ach λxs r h w hw=>by
    unfold CH at h;split at h
    · rename_i n
      split at h
      · rename_i Rv
        cases h
        exact hc n Rv.1 Rv.2 w (TabIs.same htab hw)
      · cases h
    · cases h
end M
set_option linter.unusedVariables false
namespace Go.Proofs
open Go.RowKit
def ahI{P:Program}{w w':World}{n:String}{k:IntKind}{zs:List Int}(h:Lib.TabIs P w n k zs)(hw:Below w.heap.size w w'):Lib.TabIs P w' n k zs:=by
  unfold Lib.TabIs World.var? at h⊢;cases hg:P.globalNamed n with
  |none=>rw[hg] at h;cases h
  |some g=>
    rw[hg] at h;simp only[jC] at h⊢
    have hlt:g<w.heap.size:=by
      rcases gb g w.heap.size with h'|h';· exact h'
      · rw[jW h'] at h;cases h
    rw[hw.block g hlt];exact h
def UB[B:M.Bs]{P:Program}{w:World}{n:String}{cs:Array Value}(h:B.W0.var? P n=some cs)(hw:M.o9 w):w.var? P n=some cs:=by
  unfold World.var? at h⊢;cases hg:P.globalNamed n with
  |none=>rw[hg] at h;cases h
  |some g=>
    rw[hg] at h;simp only[jC] at h⊢
    have hlt:g<B.W0.heap.size:=by
      rcases gb g B.W0.heap.size with h'|h';· exact h'
      · rw[jW h'] at h;cases h
    rw[hw g hlt];exact h
def aci(w:World)(k:Nat)(os:Array Obj):Below w.heap.size w (Sort.grow (w.drewN k) os):=
  ⟨rfl,rfl,rfl,by simp[Sort.grow,World.drewN],λb hb=>by show (w.heap++os)[b]?=w.heap[b]?;exact N4 hb⟩
def qo(v:Int)(l:List UInt8):Bool:=decide (0<=v/\v<=1000000/\Lib.itoa v=l)
def y9(v:Int)(l:List UInt8):Int:=if qo v l=true then v else 0
def ae3{P:Program}{f a:FuncId}{s:ByteArray}{w:World}(hmax:s.size<=9223372036854775807)
    (adb:7<s.size->Calls P f #[.string s] w λe w'=>e=.returned (.tuple #[.int .i64 0,.bool false])/\w'=w)
    (hok:¬7<s.size->∀v,Lib.atoiAll s.data.toList=.ok v->Calls P f #[.string s] w λe w'=>e=.returned (.tuple #[.int .i64 (y9 v s.data.toList),.bool (qo v s.data.toList)])/\Below w.heap.size w w')
    (acK:¬7<s.size->(∀v,Lib.atoiAll s.data.toList≠.ok v)->Calls P f #[.string s] w λe w'=>e=.returned (.tuple #[.int .i64 0,.bool false])/\Below w.heap.size w w'):
    Calls P f #[.string s] w λe w'=>e=.returned (.tuple #[.int .i64 (((M.cz s.data.toList).getD 0:Nat):Int),.bool (M.cz s.data.toList).isSome])/\Below w.heap.size w w':=by
  have hl:s.size=s.data.toList.length:=Lib.size_eq _;by_cases h:7<s.size
  · rw[M.ae7 _ (by omega)]
    exact(adb h).mono λe w' ⟨he,hw⟩=>⟨he,hw▸Below.refl _ _⟩
  by_cases hv:∃v,Lib.atoiAll s.data.toList=.ok v
  · obtain⟨v,hv⟩:=hv
    rw[<-M.ae6 _ _ hv]
    refine(hok h v hv).mono λe w' ⟨he,hw⟩=>⟨?_,hw⟩
    rw[he]
    by_cases hb:qo v s.data.toList=true
    · have hb':=hb
      unfold qo at hb'
      rw[bx] at hb'
      rw[y9,aq hb,hb,aq hb']
      simp;omega
    · have hb':=hb
      unfold qo at hb'
      rw[bx] at hb'
      rw[y9,ay hb,ay hb']
      simp[hb]
  · have eZ:∀v,Lib.atoiAll s.data.toList≠.ok v:=λv e=>hv ⟨v,e⟩
    rw[M.ae8 _ eZ]
    exact acK h eZ
def aon{H:Type}{enc:TypeId×Value->H}{a:Assume}{C:Checked}{os:Os}{f:FuncId}{fn:Func}{s:ChangeSpec}{conds:List PathCond}{apart fresh handsOn again:Bool}{X:World->Array Value->Prop}
    (hX:∀(w w':World) (args:Array Value),w.heap=w'.heap->X w args->X w' args)
    (own:ownKnob C.prog.godebug=none)(started:os.Started)(noInit:C.prog.inits.idxOf? f=none)(hfn:C.prog.funcs[f]?=some fn)
    (witness:∃(w:World) (tape:Tape) (i:Input),w.os=os/\(w.forCall tape i).Shaped C.prog/\i.vars=[]/\Input.okWide C.prog (w.forCall tape i) .any w.heap.size f i/\
      ((s.pre enc C.prog fn conds apart (w.forCall tape i).memory i.args/\X (w.forCall tape i).memory i.args)/\sizedMet enc C.prog fn (OpenSpec.ofChange s) apart (w.forCall tape i).memory i.args)/\a.holds C.prog (lone (Frame.enter C.prog f i.args .normal) [] (w.forCall tape i)))
    (contract:∀(W:World) (base:Nat) (args:Array Value) (ds gs:List (DataW H)) (before:List MemPlace),
      (∀(j:Nat) t v,fn.params[j]?=some t->args[j]?=some v->Value.okWide C.prog W .any base t v)->
      DataW.Whole enc C.prog fn.params.toList s.vars apart W args.toList ds gs before->
      conds.all (PathCond.test C.prog ⟨fn.params.toList,ds,s.plain.varTypes C.prog,gs⟩)=true->
      (DataW.weightsEach C.prog (fn.params.toList++s.plain.varTypes C.prog) (ds++gs)).all (· <=reachBytes)=true->X W args->
      W.ShapedOpen C.prog->
      a.holds C.prog (lone (Frame.enter C.prog f args .normal) [] W)->
      Calls C.prog f args W λe W'=>∃v,e=.returned v/\s.post enc C.prog fn apart fresh handsOn again W args v W'):
    ReturnsInHanded a C os f .any (λw args=>(s.pre enc C.prog fn conds apart w args/\X w args)/\sizedMet enc C.prog fn (OpenSpec.ofChange s) apart w args) (s.post enc C.prog fn apart fresh handsOn again):=by refine returnsInHanded_of_calls own started noInit witness ?_;intro w tape i _ hsh _ hok hpre hholds;obtain⟨_,_,_,fn',acX,_,_,_,_,hval⟩:=hok;have e:fn'=fn:=iC (acX.symm.trans hfn);subst e;obtain⟨⟨⟨ds,gs,before,hw,hc⟩,hx⟩,hz⟩:=hpre;have hw':=DataW.Whole.of_heap (w':=w.forCall tape i) (by rfl) hw;refine(contract (w.forCall tape i) w.heap.size i.args ds gs before hval hw' hc (hz.weights hw) (hX _ _ _ (by rfl) hx) hsh hholds).mono λe W' ⟨v,he,hp⟩=>?_;subst he;exact ChangeSpec.post_blind hp
end Go.Proofs
set_option linter.unusedVariables false
set_option linter.unusedSimpArgs false
namespace M
open Go Go.RowKit
def akd(s c:ah):(Lib.trimPrefix s c).length<=s.length:=by
  unfold Lib.trimPrefix;split;· simp
  · exact dc _
def YY[B:Bs]{P:Program}{f0:FuncId}(hc:∀(s p:ByteArray) (w:World),
    Calls P f0 #[.string s,.string p] w λe w'=>e=.returned (.tuple #[.string ⟨(Lib.trimPrefix s.data.toList p.data.toList).toArray⟩,.bool (Lib.hasPrefix s.data.toList p.data.toList)])/\w'=w):(dx f0 Ez).Sound P:=
  vR λxs r hg w zl zb cs hx hA hs=>by
    unfold Ez at hg;split at hg
    · rename_i s c
      split at hg
      · rename_i hh
        cases hg
        obtain rfl:=Dv hx
        have hl:=akd s.data.toList c.data.toList
        refine(hc s c w).mono λe w' ⟨he,hw⟩=>?_
        subst hw
        refine⟨mz [.str ⟨(Lib.trimPrefix s.data.toList c.data.toList).toArray⟩,.bool (Lib.hasPrefix s.data.toList c.data.toList)],?_,?_,Below.refl _ _,JZ λx hx=>?_⟩
        · rw[he,Nh];rfl
        · rw[Ng];rfl
        · have e1:s.size=s.data.toList.length:=Lib.size_eq _
          simp only[bM,mD,mI] at hx
          rcases hx with rfl|rfl
          · exact⟨AQ (by simp only[ByteArray.size,nH];omega),trivial,λ_ _ h=>h⟩
          · exact⟨EX,trivial,λ_ _ h=>h⟩
      · cases hg
    · cases hg
end M
set_option linter.unusedVariables false
set_option linter.unusedSimpArgs false
namespace M
open Go Go.RowKit
def acH[B:Bs]{P:Program}{f0:FuncId}(hc:∀(s p:ByteArray) (w:World),
    Calls P f0 #[.string s,.string p] w λe w'=>e=.returned (.bool (Lib.hasPrefix s.data.toList p.data.toList))/\w'=w):(dx f0 Fa).Sound P:=
  vR λxs r hg w zl zb cs hx hA hs=>by
    unfold Fa at hg;split at hg
    · rename_i s c
      cases hg
      obtain rfl:=Dv hx
      refine(hc s c w).mono λe w' ⟨he,hw⟩=>?_
      subst hw
      exact⟨.bool (Lib.hasPrefix s.data.toList c.data.toList),he,rfl,Below.refl _ _,EX⟩
    · cases hg
end M
set_option linter.unusedVariables false
set_option linter.unusedSimpArgs false
namespace M
open Go Go.RowKit
def jM(l:List (ByteArray×ByteArray)):List UInt8:=l.flatMap λf=>f.1.data.toList++[58,32]++f.2.data.toList++[13,10]
def Q4{l:List (ByteArray×ByteArray)}{k:Nat}(h:k<l.length):jM (l.take (k+1))=jM (l.take k)++(l[k].1.data.toList++[58,32]++l[k].2.data.toList++[13,10]):=by unfold jM;rw[uz h,N7];simp only[kE,N8,sK]
def acd{l:List (ByteArray×ByteArray)}{k:Nat}(h:k<l.length):(jM (l.take k)).length+l[k].1.size+2+l[k].2.size+2<=(jM l).length:=by
  have e:jM l=jM (l.take (k+1))++jM (l.drop (k+1)):=by unfold jM;rw[<-N7,Ii]
  rw[e,Q4 h];simp only[gT,di,jE];have h1:l[k].1.data.toList.length=l[k].1.size:=by rw[DL];rfl
  have h2:l[k].2.data.toList.length=l[k].2.size:=by rw[DL];rfl
  omega
def EW(f:aM):ByteArray×ByteArray:=(⟨f.name.toArray⟩,⟨f.value.toArray⟩)
def Q3(l:List aM):jM (l.map EW)=kP l:=by unfold jM kP;rw[List.flatMap_map];rfl
def ZI:∀{rows:List (List X)} {l:List aM},tn rows=some l->rows=l.map aW:=by
  intro rows;induction rows with
  |nil=>intro l h;simp[tn] at h;subst h;rfl
  |cons r rows ih=>
    intro l h;match r,h with
    |[.str a,.str b],h=>
      simp only[tn] at h;cases hs:tn rows with
      |none=>rw[hs] at h;simp at h
      |some l'=>rw[hs] at h;simp at h;subst h;rw[ih hs];simp
def Zv[B:Bs]{P:Program}{f0:FuncId}
    (hc:∀(A:Option Addr) (cap:Nat) (fs:List (ByteArray×ByteArray)) (w:World),
      (∀i f,fs[i]?=some f->∃g o,A=some ⟨g,o,none⟩/\g<w.heap.size/\w.cell? ⟨g,o+i*2,none⟩=some (.string f.1)/\w.cell? ⟨g,o+i*2+1,none⟩=some (.string f.2))->
      (jM fs).length<=140737488355328->fs.length<=140737488355328->
      Calls P f0 #[.slice A fs.length cap] w λe w'=>e=.returned (.string ⟨(jM fs).toArray⟩)/\Below w.heap.size w w'):(dx f0 EN).Sound P:=
  vR λxs r hg w zl zb cs hx hA hs=>by
    unfold EN at hg;split at hg
    · rename_i rows
      split at hg
      · rename_i l hl
        split at hg
        · rename_i hh
          cases hg
          obtain⟨c1,r1,rfl,h1,h2⟩:=map_cons hx
          obtain rfl:=map_nil h2
          obtain⟨A,len,cap,e,rfl,hlen,hrow⟩:=uZ h1
          have hrows:=ZI hl
          have vj:len=l.length:=by rw[hlen,hrows];simp
          have ok:=hA.ok _ (bE ..)
          obtain⟨k1,k2,k3,k4,k5⟩:=ok
          have hcell:∀i f,(l.map EW)[i]?=some f->∃g o,(A.map λq=>(⟨q.1,q.2.1,q.2.2⟩:Addr))=some ⟨g,o,none⟩/\g<w.heap.size/\w.cell? ⟨g,o+i*2,none⟩=some (.string f.1)/\w.cell? ⟨g,o+i*2+1,none⟩=some (.string f.2):=by
            intro i f hi;have hi2:i<l.length:=by have:=aQ.1 hi;simpa using this.1
            obtain⟨g,o,lM,h0,_⟩:=k2 i 0 (by omega) (by omega);obtain⟨g',o',Ri,h0',_⟩:=k2 i 1 (by omega) (by omega);rw[lM] at Ri;cases Ri;have hr:=hrow i (by omega);rw[hrows,cV,cr hi2] at hr;rw[cV,cr hi2] at hi;simp[mE,EW] at hr hi;obtain⟨r1,r2⟩:=hr;have q1:=kO r1.symm;have q2:=kO r2.symm;rw[q1] at h0;rw[q2] at h0';subst hi;refine⟨g,o,by rw[lM];rfl,?_,by simpa [C.val] using h0,by simpa [C.val] using h0'⟩;rcases gb g w.heap.size with h|h;· exact h
            · simp[World.cell?,jW h] at h0
          have key:=hc (A.map λq=>(⟨q.1,q.2.1,q.2.2⟩:Addr)) cap (l.map EW) w hcell (by rw[Q3];exact hh.1) (by simpa using hh.2)
          rw[Q3,cX,<-vj] at key
          refine Calls.mono key λe w' ⟨he,hb⟩=>?_
          exact⟨.str ⟨(kP l).toArray⟩,he,rfl,hb,AQ (by have:=hh.1;simp only[ByteArray.size,nH];omega)⟩
        · cases hg
      · cases hg
    · cases hg
end M
set_option linter.unusedVariables false
set_option linter.unusedSimpArgs false
namespace M
open Go
def jb{β γ ε:Type}(go:Nat->γ->β->γ ⊕ ε):Nat->List β->γ->γ ⊕ ε
  |_,[],g=>.inl g
  |i,b::l,g=>match go i g b with
    |.inl g'=>jb go (i+1) l g'
    |.inr e=>.inr e
def SF{xt:Nat}{β γ ε:Type}{f:ag->cK}(l:List β)(st:Nat->γ->ag)(go:Nat->γ->β->γ ⊕ ε)(E:γ->ag)(R:ε->Ex×ag)(Inv:Nat->γ->Prop)(g:γ)(h0:Inv 0 g)
    (h:∀i b g,l[i]?=some b->i<l.length->Inv i g->f (st i g)=(match go i g b with|.inl g'=>some (.normal,st (i+1) g')|.inr e=>lv (R e)))
    (hI:∀i b g g',l[i]?=some b->Inv i g->go i g b=.inl g'->Inv (i+1) g')
    (hend:∀g,Inv l.length g->f (st l.length g)=some (.exit xt,E g)):
    bh f (st 0 g)=(match jb go 0 l g with|.inl g'=>some (.exit xt,E g')|.inr e=>lv (R e)):=by
  suffices H:∀(r:List β) (i:Nat) (g:γ),Inv i g->l.drop i=r->i<=l.length->bh f (st i g)=(match jb go i r g with|.inl g'=>some (.exit xt,E g')|.inr e=>lv (R e)) from H l 0 g h0 rfl (uA _)
  intro r;induction r with
  |nil=>
    intro i g hi hr hl;have:i=l.length:=by have:=dB List.length hr;simp at this;omega
    subst this;rw[fm,hend g hi];rfl
  |cons b r ih=>
    intro i g hi hr hl
    have hlt:i<l.length:=by
      rcases gb i l.length with h|h;· exact h
      · rw[N2 h] at hr;cases hr
    have hd:=o7 hlt;rw[hr] at hd;have hb:l[i]?=some b:=by rw[cr hlt];cases hd;rfl
    have hr':l.drop (i+1)=r:=by cases hd;rfl
    rw[fm,h i b g hb hlt hi];unfold jb;cases hg:go i g b with
    |inl g'=>exact ih (i+1) g' (hI i b g g' hb hi hg) hr' hlt
    |inr e=>rcases hR:R e with ⟨x,s⟩;cases x<;>simp[ga,lv,hR]
def TS{β γ ε:Type}{go:Nat->γ->β->γ ⊕ ε}{I:Nat->γ->Prop}{O:ε->Prop}(n:Nat)(h:∀i g b,i<n->I i g->(∀g',go i g b=.inl g'->I (i+1) g')/\∀e,go i g b=.inr e->O e):∀(l:List β) (i:Nat) (g:γ),i+l.length=n->I i g->(∀g',jb go i l g=.inl g'->I n g')/\∀e,jb go i l g=.inr e->O e
  |[],i,g,hn,hg=>by
    have:i=n:=by simpa using hn
    subst this;exact⟨λg' e=>by cases e;exact hg,λe h=>by cases h⟩
  |b::l,i,g,hn,hg=>by
    have h1:=h i g b (by simp at hn;omega) hg;rw[jb];cases n7:go i g b with
    |inl g'=>exact TS n h l (i+1) g' (by simp at hn;omega) (h1.1 g' n7)
    |inr e=>exact⟨λg' e=>(by cases e),λe he=>(by cases he;exact h1.2 _ n7)⟩
end M
set_option linter.unusedVariables false
set_option linter.unusedSimpArgs false
namespace M
open Go
def crlf:ah:=[13,10]
def ck:ah:=[13,10,13,10]
def cw(c:UInt8)(s:ah):Prop:=∀b∈s,b≠c
def kq{c:UInt8}{s t:ah}:cw c (s++t)↔cw c s/\cw c t:=by
  unfold cw;constructor
  · intro h
    exact⟨λb hb=>h b (NH _ hb),λb hb=>h b (NI _ hb)⟩
  · intro h b hb
    rcases fE.1 hb with hb|hb
    · exact h.1 b hb
    · exact h.2 b hb
def vT{c b:UInt8}{s:ah}:cw c (b::s)↔b≠c/\cw c s:=by simp[cw]
def GH(c:UInt8)(t:ah):∀(l r:ah),cw c l->Lib.index (l++r) (c::t)=if Lib.index r (c::t)=-1 then -1 else Lib.index r (c::t)+l.length
  |[],r,_=>by simp only[kB,jE];split<;>simp_all
  |b::l,r,h=>by
    rw[vT] at h;have ih:=GH c t l r h.2;have hge:=Lib.index_ge r (c::t);rw[gS,Lib.index,ih];have hcb:(c==b)=false:=by simp;exact λe=>h.1 e.symm
    have hp:(c::t).isPrefixOf (b::(l++r))=false:=by simp[List.isPrefixOf,hcb]
    rw[hp];simp only[iP,iD,di];by_cases g:Lib.index r (c::t)=-1;· simp[g]
    · have g2:¬(Lib.index r (c::t)+l.length=-1):=by omega
      simp only[g,iD,ey,g2]
      omega
def adT(c:UInt8)(t:ah)(l:ah)(h:cw c l):Lib.index l (c::t)=-1:=by have:=GH c t l [] h;rw[sK] at this;rw[this];rfl
def LC(c:UInt8)(t:ah)(l r:ah)(h:cw c l):Lib.index (l++(c::t++r)) (c::t)=l.length:=by
  have h0:Lib.index (c::t++r) (c::t)=0:=by rw[gS,Lib.index,aq (by simp)]
  rw[GH c t l _ h,h0];simp
def PX(c:UInt8)(t:ah)(l r:ah)(h:cw c l):Lib.cut (l++(c::t++r)) (c::t)=(l,r,true):=by
  unfold Lib.cut;rw[LC c t l r h,aq (by omega)];have e1:((l.length:Int)).toNat=l.length:=by omega
  rw[e1,NP];have e2:l++(c::t++r)=(l++c::t)++r:=by simp
  have e3:l.length+(c::t).length=(l++c::t).length:=by simp
  rw[e2,e3,Is]
def aht(c:UInt8)(t:ah)(n:Nat)(l:ah)(h:cw c l):Lib.splitK (c::t) 0 n l=[l]:=by
  cases n with
  |zero=>rfl
  |succ n=>rw[Lib.splitK,adT c t l h];rfl
def ahx(c:UInt8)(t:ah)(l:ah)(h:cw c l):Lib.split l (c::t)=[l]:=aht c t _ l h
def ahv(c:UInt8)(t:ah)(l r:ah)(h:cw c l):Lib.split (l++(c::t++r)) (c::t)=l::Lib.split r (c::t):=by
  have hi:=LC c t l r h;have e2:l++(c::t++r)=(l++c::t)++r:=by simp
  have e3:l.length+(c::t).length=(l++c::t).length:=by simp
  have hd:(l++(c::t++r)).drop (l.length+(c::t).length)=r:=by rw[e2,e3,Is]
  have hc:=Lib.count_hit (s:=l++(c::t++r)) (sub:=c::t) (by simp) hi;rw[hd] at hc;unfold Lib.split;rw[hc,sG,Lib.splitK,hi];have g:¬(((l.length:Int))==-1)=true:=by simp
  rw[ay g];have e1:((l.length:Int)).toNat=l.length:=by omega
  rw[e1,hd,nJ,NP]
def lines:List ah->ah
  |[]=>[]
  |[l]=>l
  |l::k::ls=>l++(crlf++lines (k::ls))
def Sy:∀(ls:List ah),ls≠[]->(∀l∈ls,cw 13 l)->Lib.split (lines ls) crlf=ls
  |[l],_,h=>ahx 13 [10] l (h l (bE ..))
  |l::k::ls,_,h=>by have ih:=Sy (k::ls) (by simp) λx hx=>h x (cI _ hx);have:=ahv 13 [10] l (lines (k::ls)) (h l (bE ..));show Lib.split (l++(crlf++lines (k::ls))) crlf=_;rw[show crlf=13::[10] from rfl,this];rw[show (13::[10]:ah)=crlf from rfl,ih]
def aep:∀(ls:List ah),ls≠[]->(∀l∈ls,l≠[])->(∀l∈ls,cw 13 l)->∃b t,lines ls=b::t/\b≠13
  |[l],_,h,h2=>by obtain⟨b,t,e⟩:=Vp (h l (bE ..));exact⟨b,t,e,h2 l (bE ..) b (by rw[e];exact bE ..)⟩
  |l::k::ls,_,h,h2=>by obtain⟨b,t,e⟩:=Vp (h l (bE ..));exact⟨b,t++(crlf++lines (k::ls)),by show l++_=_;rw[e];rfl,h2 l (bE ..) b (by rw[e];exact bE ..)⟩
def Sw(b:ah):∀(ls:List ah),ls≠[]->(∀l∈ls,l≠[])->(∀l∈ls,cw 13 l)->Lib.index (lines ls++(ck++b)) ck=(lines ls).length
  |[l],_,h,h2=>LC 13 [10,13,10] l b (h2 l (bE ..))
  |l::k::ls,_,h,h2=>by
    have hk:∀x∈k::ls,x≠[]:=λx hx=>h x (cI _ hx);have hk2:∀x∈k::ls,cw 13 x:=λx hx=>h2 x (cI _ hx);have ih:=Sw b (k::ls) (by simp) hk hk2;obtain⟨c,t,e,hc⟩:=aep (k::ls) (by simp) hk hk2;have e0:lines (l::k::ls)++(ck++b)=l++(13::10::(lines (k::ls)++(ck++b))):=by show (l++(crlf++lines (k::ls)))++(ck++b)=_;simp[crlf]
    have e1:(lines (l::k::ls)).length=l.length+2+(lines (k::ls)).length:=by show (l++(crlf++lines (k::ls))).length=_;simp[crlf];omega
    have hcb:((13:UInt8)==c)=false:=by simp;exact λe=>hc e.symm
    have p1:ck.isPrefixOf (13::10::(lines (k::ls)++(ck++b)))=false:=by rw[e];simp[ck,List.isPrefixOf,hcb]
    have p2:ck.isPrefixOf (10::(lines (k::ls)++(ck++b)))=false:=by simp[ck,List.isPrefixOf]
    have e2:Lib.index (13::10::(lines (k::ls)++(ck++b))) ck=(lines (k::ls)).length+2:=by
      rw[Lib.index,p1,Lib.index,p2,ih];have q1:¬(((lines (k::ls)).length:Int)==-1)=true:=by simp
      simp only[iP,iD,q1];have q2:¬(((lines (k::ls)).length:Int)+1==-1)=true:=by simp;omega
      simp only[q2];simp;omega
    rw[e0,show ck=13::[10,13,10] from rfl,GH 13 [10,13,10] l _ (h2 l (bE ..)),show (13::[10,13,10]:ah)=ck from rfl,e2,e1,ay (by omega)];omega
def aeo(b:ah)(ls:List ah)(h0:ls≠[])(h:∀l∈ls,l≠[])(h2:∀l∈ls,cw 13 l):Lib.cut (lines ls++(ck++b)) ck=(lines ls,b,true):=by
  unfold Lib.cut;rw[Sw b ls h0 h h2,aq (by omega)];have e1:(((lines ls).length:Int)).toNat=(lines ls).length:=by omega
  have e2:lines ls++(ck++b)=(lines ls++ck)++b:=by simp
  have e3:(lines ls).length+ck.length=(lines ls++ck).length:=by simp
  rw[e1,NP,e3,e2,Is]
def qn:ah:=[72,84,84,80,47,49,46,49]
def j9(f:aM):ah:=f.name++([58,32]++f.value)
def EY(fs:List aM):ah:=fs.flatMap λf=>j9 f++crlf
def nr(b:ah):ah:=fI++([58,32]++bJ b.length)
def mo(r:aV):ah:=qn++32::(bJ r.status.toNat++[32,46])
def qy(r:aV):List ah:=mo r::(r.fields.map j9++[nr r.body])
def mj(r:aV):ah:=lines (qy r)++(ck++r.body)
def jv(r:aV):ah:=if fA r=true then mj r else []
def ab8(fs:List aM):kP fs=EY fs:=by unfold kP EY;congr 1;funext f;simp[JN,j9,crlf]
def aen(fs:List aM)(l z:ah):lines (l::(fs.map j9++[z]))=l++(crlf++(EY fs++z)):=by
  induction fs generalizing l with
  |nil=>rfl
  |cons f fs ih=>show l++(crlf++lines (j9 f::(fs.map j9++[z])))=_;rw[ih];simp[EY]
def TO(r:aV):mj r=mo r++(crlf++(kP r.fields++(nr r.body++(ck++r.body)))):=by unfold mj qy;rw[aen,ab8];simp
def s8(c:UInt8)(hc:c.toNat<48\/57<c.toNat)(n:Nat):cw c (bJ n):=by intro b hb e;have:=gj.1 (P0 n) b hb;simp only[AE,bx] at this;subst e;omega
def Nc(c:UInt8)(hc:Du c=false){s:ah}(h:gR s=true):cw c s:=by intro b hb e;unfold gR at h;simp only[av] at h;have:=gj.1 h.1 b hb;rw[e,hc] at this;cases this
def ahO{s:ah}(h:gR s=true):s≠[]:=by rintro rfl;simp[gR] at h
def Nk(c:UInt8)(hc:qE 32 c=false){s:ah}(h:jA s=true):cw c s:=by intro b hb e;unfold jA at h;simp only[av] at h;have:=gj.1 h.1.1 b hb;rw[e,hc] at this;cases this
def JO{fs:List aM}(h:mQ fs=true){f:aM}(hf:f∈fs):gR f.name=true/\jA f.value=true/\f.name≠fI:=by unfold mQ at h;simp only[av] at h;obtain⟨i,hi,rfl⟩:=nO hf;have:=gj.1 h.1 (fs[i],i) (sE (i:=i) (by simp[hi]));unfold rj at this;simp only[av,o6,Im] at this;exact⟨this.1.1.1,this.1.1.2,this.2⟩
def Qu{fs:List aM}(h:mQ fs=true):fs.length<=8:=by unfold mQ at h;simp only[av,bx] at h;omega
def Zn{f:aM}(h1:gR f.name=true)(h2:jA f.value=true):cw 13 (j9 f)/\cw 10 (j9 f)/\j9 f≠[]:=by
  refine⟨?_,?_,?_⟩
  · unfold j9
    rw[kq,kq]
    exact⟨Nc 13 (by decide) h1,by simp[cw],Nk 13 (by decide) h2⟩
  · unfold j9
    rw[kq,kq]
    exact⟨Nc 10 (by decide) h1,by simp[cw],Nk 10 (by decide) h2⟩
  · have:=ahO h1
    simp[j9]
def ael(b:ah):cw 13 (nr b)/\cw 10 (nr b)/\nr b≠[]:=by
  refine⟨?_,?_,by simp[nr]⟩
  · unfold nr
    rw[kq,kq]
    exact⟨by simp[cw,fI],by simp[cw],s8 13 (by decide) _⟩
  · unfold nr
    rw[kq,kq]
    exact⟨by simp[cw,fI],by simp[cw],s8 10 (by decide) _⟩
def agX(r:aV):cw 13 (mo r)/\cw 10 (mo r)/\mo r≠[]:=by
  refine⟨?_,?_,by simp[mo,qn]⟩
  · unfold mo
    rw[kq,vT,kq]
    exact⟨by simp[cw,qn],by decide,s8 13 (by decide) _,by simp[cw]⟩
  · unfold mo
    rw[kq,vT,kq]
    exact⟨by simp[cw,qn],by decide,s8 10 (by decide) _,by simp[cw]⟩
def agZ{r:aV}(h:mQ r.fields=true):∀l∈qy r,cw 13 l/\cw 10 l/\l≠[]:=by
  intro l hl;unfold qy at hl;simp only[bM,fE,aY,mD,mI] at hl;rcases hl with rfl|⟨f,hf,rfl⟩|rfl;· exact agX r
  · have:=JO h hf
    exact Zn this.1 this.2.1
  · exact ael r.body
end M
set_option linter.unusedVariables false
set_option linter.unusedSimpArgs false
namespace M
open Go
open Classical in
noncomputable def nF{α:Type}(body:α->ah)(ok:α->Bool)(z:α)(s:ah):α×Bool:=
  if h:∃r,ok r=true/\body r=s then (h.choose,true) else (z,false)
def ME{α:Type}{body:α->ah}{ok:α->Bool}{z:α}{cand:ah->Option α}(hc:∀r,ok r=true->cand (body r)=some r)(s:ah):
    nF body ok z s=match cand s with
      |some r=>if ok r=true/\body r=s then (r,true) else (z,false)
      |none=>(z,false):=by
  unfold nF;by_cases h:∃r,ok r=true/\body r=s
  · rw[oZ h]
    have h1:=h.choose_spec
    have h2:=hc _ h1.1
    rw[h1.2] at h2
    rw[h2]
    simp only
    rw[aq h1]
  · rw[DP h]
    cases hs:cand s with
    |none=>rfl
    |some r=>
      simp only
      rw[ay]
      exact λhr=>h ⟨r,hr⟩
def Tu{α:Type}{body:α->ah}{ok:α->Bool}{z:α}{s:ah}(h:(nF body ok z s).2=true):ok (nF body ok z s).1=true/\body (nF body ok z s).1=s:=by
  unfold nF at h⊢;by_cases g:∃r,ok r=true/\body r=s;· rw[oZ g];exact g.choose_spec
  · rw[DP g] at h;cases h
def Tt{α:Type}{body:α->ah}{ok:α->Bool}{z:α}{s:ah}(h:(nF body ok z s).2=false):nF body ok z s=(z,false):=by
  unfold nF at h⊢;by_cases g:∃r,ok r=true/\body r=s;· rw[oZ g] at h;cases h
  · rw[DP g]
def agB{α:Type}{body:α->ah}{ok:α->Bool}{z:α}{cand:ah->Option α}(hc:∀r,ok r=true->cand (body r)=some r){r:α}(h:ok r=true):nF body ok z (body r)=(r,true):=by rw[ME hc,hc r h];simp only;rw[aq ⟨h,trivial⟩]
def colon:ah:=[58,32]
def mU:List ah->Option (List aM)
  |[]=>some []
  |l::ls=>if (Lib.cut l colon).2.2=true then (if ls=[]/\(Lib.cut l colon).1=fI then some [] else (mU ls).map λfs=>⟨(Lib.cut l colon).1,(Lib.cut l colon).2.1⟩::fs) else none
def lZ(s:ah):Option (ah×List aM×ah):=
  if (Lib.cut s ck).2.2=true/\((Lib.split (Lib.cut s ck).1 crlf).length:Int)<=10 then (mU (Lib.split (Lib.cut s ck).1 crlf).tail).map λfs=>((Lib.split (Lib.cut s ck).1 crlf).headD [],fs,(Lib.cut s ck).2.1)
  else none
def wD(ws:List ah):Option ah:=match ws with
  |[_,w,_]=>some w
  |_=>none
def sg(s:ah):Option aV:=(lZ s).bind λp=>(wD (cu 32 p.1)).map λw=>⟨(((cz w).getD 0:Nat):Int),p.2.1,p.2.2⟩
def fZ:aV:=⟨0,[],[]⟩
noncomputable def fK(s:ah):aV×Bool:=nF mj fA fZ s
def Dl(w r:ah)(h:cw 32 w):cu 32 (w++32::r)=w::cu 32 r:=by rw[HH 32 w _ h];simp[cu]
def agY(r:aV):cu 32 (mo r)=[qn,bJ r.status.toNat,[46]]:=by unfold mo;rw[Dl _ _ (by simp[cw,qn]),show ([32,46]:ah)=32::[46] from rfl,Dl _ _ (s8 32 (by decide) _),Uc 32 [46] (by simp)]
def QO(b:ah):∀(fs:List aM),(∀f∈fs,gR f.name=true/\jA f.value=true/\f.name≠fI)->mU (fs.map j9++[nr b])=some fs
  |[],_=>by have:Lib.cut (nr b) colon=(fI,bJ b.length,true):=PX 58 [32] fI (bJ b.length) (by simp[cw,fI]);simp[mU,this]
  |f::fs,h=>by have hf:=h f (bE ..);have ih:=QO b fs λx hx=>h x (cI _ hx);have:Lib.cut (j9 f) colon=(f.name,f.value,true):=PX 58 [32] f.name f.value (Nc 58 (by decide) hf.1);simp only[bC,gS,mU,this,ih];simp
def TD{r:aV}(h:fA r=true):(100<=r.status/\r.status<=599)/\mQ r.fields=true/\r.body.length<=120:=by unfold fA at h;simp only[av,bx] at h;exact⟨h.1.1,h.1.2,by omega⟩
def TQ{r:aV}(h:fA r=true):sg (mj r)=some r:=by
  obtain⟨hs,hf,hb⟩:=TD h;have hl:=agZ hf;have hne:qy r≠[]:=by simp[qy]
  have hc:=aeo r.body (qy r) hne (λl h=>(hl l h).2.2) (λl h=>(hl l h).1);have hsp:=Sy (qy r) hne (λl h=>(hl l h).1);have hlen:=Qu hf;have hp:lZ (mj r)=some (mo r,r.fields,r.body):=by unfold lZ mj;rw[hc];simp only;rw[hsp,aq ⟨trivial,by simp[qy];omega⟩];have ht:(qy r).tail=r.fields.map j9++[nr r.body]:=rfl;rw[ht,QO r.body r.fields λf hf'=>JO hf hf'];rfl
  unfold sg;rw[hp];simp only[jC];rw[agY];have hn:cz (bJ r.status.toNat)=some r.status.toNat:=vU.2 ⟨by omega,rfl⟩;simp only[wD,cG,hn,wQ];have:((r.status.toNat:Nat):Int)=r.status:=by omega
  rw[this]
def TG{r:aV}{s:ah}(hs:s≠[]):jv r=s↔fA r=true/\mj r=s:=by
  unfold jv;constructor
  · intro h
    split at h
    · rename_i g;exact⟨g,h⟩
    · exact absurd h.symm hs
  · rintro ⟨g,h⟩
    rw[aq g,h]
def TP(r:aV):mj r≠[]:=by rw[TO];simp[mo,qn]
def TF(r:aV):jv r=[]↔¬fA r=true:=by unfold jv;have:=TP r;split<;>simp_all
def agH(s:ah):fK s=match sg s with
    |some r=>if jv r=s/\s≠[] then (r,true) else (fZ,false)
    |none=>(fZ,false):=by
  unfold fK;rw[ME (cand:=sg) (λr h=>TQ h) s];cases sg s with
  |none=>rfl
  |some r=>
    simp only;by_cases hs:s=[]
    · subst hs
      rw[ay (λh=>TP r h.2),ay (by simp)]
    · by_cases g:jv r=s
      · rw[aq ((TG hs).1 g),aq ⟨g,hs⟩]
      · rw[ay (mt (TG hs).2 g),ay (λh=>g h.1)]
def ql:ah:=[111,98,106]
def uh(o:Ob):ah:=ql++32::(o.path++32::(dn o.t++32::bJ o.values.length))
def nG(l:List ah):ah:=l.flatMap λv=>v++[10]
def qp(o:Ob):ah:=uh o++10::(nG o.values++mj o.resp)
def fJ(o:Ob):ah:=if dy o=true then qp o else []
def jq:Ob:=⟨[],[],[],fZ,0⟩
noncomputable def jR(s:ah):Ob×Bool:=nF qp dy jq s
def gv(s:ah):ah×ah:=(eC 10 s).getD (s,[])
def eu:Nat->ah->List ah×ah
  |0,s=>([],s)
  |n+1,s=>((gv s).1::(eu n (gv s).2).1,(eu n (gv s).2).2)
def wE(ws:List ah):Option (ah×ah×ah):=match ws with
  |[_,p,t,n]=>some (p,t,n)
  |_=>none
def YW(p r:ah)(h:cw 10 p):eC 10 (p++10::r)=some (p,r):=by
  induction p with
  |nil=>simp[eC]
  |cons b p ih=>rw[vT] at h;rw[gS,eC,ay h.1,ih h.2];rfl
def PV(p r:ah)(h:cw 10 p):gv (p++10::r)=(p,r):=by unfold gv;rw[YW p r h];rfl
def Un(r:ah):∀(l:List ah),(∀v∈l,cw 10 v)->eu l.length (nG l++r)=(l,r)
  |[],_=>rfl
  |v::l,h=>by
    have e:nG (v::l)++r=v++10::(nG l++r):=by simp[nG]
    rw[e,di,eu,PV v _ (h v (bE ..)),Un r l λx hx=>h x (cI _ hx)]
def UE(c:UInt8){lo:Nat}(hc:qE lo c=false){s:ah}(h:bq (qE lo) s=true):cw c s:=by intro b hb e;have:=gj.1 h b hb;rw[e,hc] at this;cases this
def Tg{s:ah}(h:lg s=true):cw 32 s/\cw 10 s:=by unfold lg at h;simp only[av] at h;exact⟨UE 32 (by decide) h.1.1,UE 10 (by decide) h.1.1⟩
def SY(c:UInt8)(hc:c.toNat<48\/57<c.toNat)(n:Int):cw c (dn n):=by
  unfold dn;split;· exact s8 c hc _
  · simp[cw]
structure z8 (o:Ob):Prop where
  resp:fA o.resp=true
  path:lg o.path=true
  t0:0<=o.t
  t1:o.t<=1000000
  names:qk o.names=true
  akl:o.names=eL o.resp.fields
  len:o.values.length=o.names.length
  n4:o.names.length<=4
  vals:∀v∈o.values,jA v=true
def Hq{o:Ob}(h:dy o=true):z8 o:=by
  unfold dy at h;simp only[av,bx] at h;have hn:o.names.length<=4:=by have:=h.1.1.1.2;unfold qk at this;simp only[av,bx] at this;omega
  obtain⟨⟨⟨⟨⟨⟨h1,h2⟩,h3,h4⟩,h5⟩,h6⟩,h7⟩,h8⟩:=h;exact⟨h1,h2,h3,h4,h5,h6,by omega,hn,λv hv=>gj.1 h8 v hv⟩
def afn{o:Ob}(h:z8 o):cu 32 (uh o)=[ql,o.path,dn o.t,bJ o.values.length]:=by unfold uh;rw[Dl _ _ (by simp[cw,ql]),Dl _ _ (Tg h.path).1,Dl _ _ (SY 32 (by decide) _),Uc 32 _ (s8 32 (by decide) _)]
def afm{o:Ob}(h:z8 o):cw 10 (uh o):=by unfold uh;rw[kq,vT,kq,vT,kq,vT];exact⟨by simp[cw,ql],by decide,(Tg h.path).2,by decide,SY 10 (by decide) _,by decide,s8 10 (by decide) _⟩
def akk{o:Ob}(h:z8 o):∀v∈o.values,cw 10 v:=λv hv=>Nk 10 (by decide) (h.vals v hv)
noncomputable def C3(p:ah)(t n:Nat)(b:ah):Option Ob:=if n<=4 then (if (fK (eu n b).2).2=true then some ⟨p,eL (fK (eu n b).2).1.fields,(eu n b).1,(fK (eu n b).2).1,t⟩ else none) else none
noncomputable def zf(s:ah):Option Ob:=(wE (cu 32 (gv s).1)).bind λw=>(cz w.2.1).bind λt=>(cz w.2.2).bind λn=>C3 w.1 t n (gv s).2
def aft{o:Ob}(h:z8 o):C3 o.path o.t.toNat o.values.length (nG o.values++mj o.resp)=some o:=by
  have h1:=Un (mj o.resp) o.values (akk h);have h2:fK (mj o.resp)=(o.resp,true):=agB (cand:=sg) (λr h=>TQ h) h.resp;unfold C3;have hl:=h.len;have h4:=h.n4;rw[aq (by omega),h1];simp only;rw[h2,aq rfl];simp only;have ht:((o.t.toNat:Nat):Int)=o.t:=by have:=h.t0;omega
  rw[ht,<-h.akl]
def afk{o:Ob}(ho:dy o=true):zf (qp o)=some o:=by
  have h:=Hq ho;unfold zf qp;rw[PV _ _ (afm h)];simp only;rw[afn h];have h0:=h.t0;have h1:=h.t1;have hl:=h.len;have h4:=h.n4
  have hn:cz (dn o.t)=some o.t.toNat:=by
    have e:o.t=((o.t.toNat:Nat):Int):=by omega
    rw[e,ae9 _ (by omega)];simp;omega
  have hd:cz (bJ o.values.length)=some o.values.length:=vU.2 ⟨by omega,rfl⟩;simp only[wE,jC,hn,hd];exact aft h
def afi(o:Ob):qp o≠[]:=by simp[qp,uh,ql]
def S3{o:Ob}{s:ah}(hs:s≠[]):fJ o=s↔dy o=true/\qp o=s:=by
  unfold fJ;constructor
  · intro h
    split at h
    · rename_i g;exact⟨g,h⟩
    · exact absurd h.symm hs
  · rintro ⟨g,h⟩
    rw[aq g,h]
def S2(o:Ob):fJ o=[]↔¬dy o=true:=by unfold fJ;have:=afi o;split<;>simp_all
def afq{cand:ah->Option Ob}(hc:∀o,dy o=true->cand (qp o)=some o)(hn:cand []=none)(s:ah):jR s=match cand s with
    |some o=>if fJ o=s then (o,true) else (jq,false)
    |none=>(jq,false):=by
  unfold jR;rw[ME (cand:=cand) hc s];cases hs:cand s with
  |none=>rfl
  |some o=>
    simp only;have hs0:s≠[]:=by rintro rfl;rw[hn] at hs;cases hs
    by_cases g:fJ o=s;· rw[aq ((S3 hs0).1 g),aq g]
    · rw[ay (mt (S3 hs0).2 g),ay g]
def afl:zf []=none:=by simp[zf,gv,eC,cu,wE]
def afp(s:ah):jR s=match zf s with
    |some o=>if fJ o=s then (o,true) else (jq,false)
    |none=>(jq,false):=afq (λo h=>afk h) afl s
end M
set_option linter.unusedVariables false
set_option linter.unusedSimpArgs false
namespace M
open Go
end M
set_option linter.unusedVariables false
set_option linter.unusedSimpArgs false
namespace M
open Go
def UM{α:Type}(w:α->Nat)(l:List α)(n:Nat):wL w (l.take n)<=wL w l:=by have h:l=l.take n++l.drop n:=(Ii n l).symm;have h1:=dB List.length h;have h2:=dB (λl=>(l.map w).sum) h;simp only[gT] at h1;simp only[kF,List.sum_append] at h2;unfold wL;omega
end M
set_option linter.unusedVariables false
set_option linter.unusedSimpArgs false
namespace M
open Go
def QJ{α:Type}{p:α->Bool}{l:List α}{i:Nat}{b:α}(h:cS p 0 l=some (i,b)):l=l.take i++b::l.drop (i+1)/\p b=true/\(l.take i).filter (λv=> !p v)=l.take i/\l.filter (λv=> !p v)=l.take i++(l.drop (i+1)).filter (λv=> !p v):=by
  obtain⟨_,h1,h2⟩:=q9 h;rw[wN] at h1;obtain⟨hi,rfl⟩:=aQ.1 h1;have e:l=l.take i++l[i]::l.drop (i+1):=by rw[<-o7 hi,Ii]
  have hb:∀x∈l.take i,p x=false:=by
    suffices H:∀(l:List α) (k i:Nat) (b:α),cS p k l=some (k+i,b)->∀x∈l.take i,p x=false from H l 0 i _ (by simpa using h)
    intro l;induction l with
    |nil=>intro k i b h;simp[cS] at h
    |cons a l ih=>
      intro k i b h x hx;unfold cS at h;by_cases hp:p a=true
      · rw[aq hp] at h
        have:i=0:=by have:=dB (λo=>o.map Prod.fst) h;simp at this;exact this
        subst this
        simp at hx
      · rw[ay hp] at h
        cases i with
        |zero=>simp at hx
        |succ i=>
          rcases bM.1 (by simpa using hx) with rfl|hx
          · simpa using hp
          · exact ih (k+1) i b (by rw[h];congr 2;omega) x hx
  have hf:(l.take i).filter (λv=> !p v)=l.take i:=N6.2 λx hx=>by simp[hb x hx]
  refine⟨e,h2,hf,?_⟩;conv=>lhs;rw[e]
  rw[List.filter_append,hf,DR];simp[h2]
end M
set_option linter.unusedVariables false
set_option linter.unusedSimpArgs false
namespace M
open Go
def fV{α:Type}(q:α->Int)(k:α):List α->List α
  |[]=>[k]
  |x::l=>if q k<q x then k::x::l else x::fV q k l
def oP{α:Type}(q:α->Int)(l:List α):List α:=l.foldl (λS k=>fV q k S) []
def nC{α:Type}(q:α->Int)(l:List α):Prop:=l.Pairwise λa b=>q a<=q b
def GK{α:Type}(q:α->Int)(k:α):∀l:List α,(fV q k l).Perm (k::l)
  |[]=>List.Perm.refl _
  |x::l=>by
    unfold fV;split;· exact List.Perm.refl _
    · exact((GK q k l).cons x).trans (List.Perm.swap ..)
def adV{α:Type}{q:α->Int}{k x:α}{l:List α}:x∈fV q k l↔x=k\/x∈l:=by rw[(GK q k l).mem_iff];simp
def Sb{α:Type}(q:α->Int)(k:α)(l:List α):(fV q k l).length=l.length+1:=by rw[(GK q k l).length_eq];rfl
def LG{α:Type}{q:α->Int}{k:α}:∀{l:List α},nC q l->nC q (fV q k l)
  |[],_=>by simp[fV,nC]
  |x::l,h=>by
    unfold nC at h⊢;rw[ew] at h;unfold fV;split
    · rename_i g
      rw[ew]
      refine⟨λy hy=>?_,ew.2 h⟩
      rcases bM.1 hy with rfl|hy
      · omega
      · have:=h.1 y hy;omega
    · rename_i g
      rw[ew]
      refine⟨λy hy=>?_,LG h.2⟩
      rcases adV.1 hy with rfl|hy
      · omega
      · exact h.1 y hy
def MW{α:Type}(q:α->Int)(l:List α):(oP q l).Perm l:=by
  suffices H:∀(l S:List α),(l.foldl (λS k=>fV q k S) S).Perm (S++l) by simpa [oP] using H l []
  intro l;induction l with
  |nil=>intro S;simp
  |cons k l ih=>intro S;rw[qJ];refine(ih _).trans ?_;refine((GK q k S).append_right l).trans ?_;simpa using (List.perm_middle (a:=k) (l₁:=S) (l₂:=l)).symm
def aho{α:Type}(q:α->Int)(l:List α):nC q (oP q l):=by
  suffices H:∀(l S:List α),nC q S->nC q (l.foldl (λS k=>fV q k S) S) by exact H l [] (by simp[nC])
  intro l;induction l with
  |nil=>intro S h;simpa using h
  |cons k l ih=>intro S h;rw[qJ];exact ih _ (LG h)
def R9{α:Type}{q:α->Int}{k:α}:∀{l r:List α},(∀x∈l,q x<=q k)->fV q k (l++r)=l++fV q k r
  |[],r,_=>rfl
  |x::l,r,h=>by have h1:=h x (bE ..);rw[gS,fV,ay (by omega),R9 λy hy=>h y (cI _ hy)];rfl
def Sa{α:Type}{q:α->Int}{k:α}{l:List α}(h:∀x∈l,q k<q x):fV q k l=k::l:=by
  cases l with
  |nil=>rfl
  |cons x l=>rw[fV,aq (h x (bE ..))]
def yG{α:Type}(q:α->Int)(k:α):List α->List α->List α
  |[],done=>k::done
  |x::rev,done=>if q k<q x then yG q k rev (x::done) else (x::rev).reverse++k::done
def Sc{α:Type}{q:α->Int}{k:α}:∀(rev done:List α),nC q rev.reverse->(∀x∈done,q k<q x)->yG q k rev done=fV q k (rev.reverse++done)
  |[],done,_,h=>by simp[yG,Sa h]
  |x::rev,done,ho,h=>by
    have e:(x::rev).reverse=rev.reverse++[x]:=by simp
    have ho':=ho;rw[e] at ho';unfold nC at ho';rw[sF] at ho';unfold yG;split
    · rename_i g
      rw[Sc rev (x::done) ho'.1 (λy hy=>by
        rcases bM.1 hy with rfl|hy;· exact g
        · exact h y hy)]
      simp
    · rename_i g
      rw[R9 (λy hy=>by
        rw[e] at hy;rcases fE.1 hy with hy|hy;· have:=ho'.2.2 y hy x (by simp);omega
        · simp at hy;subst hy;omega),Sa h]
end M
set_option linter.unusedVariables false
set_option linter.unusedSimpArgs false
namespace M
open Go
structure Aa (S:Int) (l:List Kp):Prop where
  k:∀x∈l,dy x.obj=true/\(5<=x.at_/\x.at_<=19)/\1<=x.seq/\x.seq<S
  p:l.Pairwise λx y=>x.at_≠y.at_/\x.seq<y.seq
def aeh(S:Int)(l:List Kp):uj S l=true↔∀i (h:i<l.length),dy l[i].obj=true/\(5<=l[i].at_/\l[i].at_<=19)/\(∀y∈l.take i,¬y.at_=l[i].at_)/\nD l i<l[i].seq/\l[i].seq<S:=by
  unfold uj;rw[gj];constructor
  · intro H i h
    have hm:(l[i],i)∈l.zipIdx:=by
      have:(l.zipIdx)[i]'(by simpa using h)=(l[i],i):=by simp
      rw[<-this];exact cB _
    have:=H _ hm
    simp only[yL,av,bx,gj] at this
    exact⟨this.1.1.1.1,this.1.1.1.2,this.1.1.2,this.1.2,this.2⟩
  · intro H x hx
    obtain⟨i,hi,rfl⟩:=nO hx
    have hl:i<l.length:=by simpa using hi
    have:=H i hl
    simp only[Vu,yL,av,bx,gj,mF]
    exact⟨⟨⟨⟨this.1,this.2.1⟩,this.2.2.1⟩,this.2.2.2.1⟩,this.2.2.2.2⟩
def C4{S:Int}{l:List Kp}:uj S l=true↔Aa S l:=by
  rw[aeh];constructor
  · intro H
    have up:∀j (hj:j<l.length) i (hi:i<j),l[i].seq<l[j].seq:=by
      intro j;induction j with
      |zero=>intro hj i hi;omega
      |succ j ih=>
        intro hj i hi;have h1:=(H (j+1) hj).2.2.2.1;rw[Mz l j (by omega)] at h1;rcases gb i j with h|h;· have:=ih (by omega) i h;omega
        · have:i=j:=by omega
          subst this;exact h1
    refine⟨λx hx=>?_,?_⟩
    · obtain⟨i,hi,rfl⟩:=nO hx
      have h:=H i hi
      refine⟨h.1,h.2.1,?_,h.2.2.2.2⟩
      cases i with
      |zero=>have:=h.2.2.2.1;simp[nD] at this;omega
      |succ i=>
        have h1:=up (i+1) hi 0 (by omega)
        have h2:=(H 0 (by omega)).2.2.2.1
        simp[nD] at h2
        omega
    · rw[lB]
      intro i j hi hj hij
      refine⟨λe=>?_,up j hj i hij⟩
      refine(H j hj).2.2.1 l[i] ?_ e
      exact Ig.2 ⟨i,by omega,rfl⟩
  · rintro ⟨hk,hp⟩ i h
    rw[lB] at hp
    have h1:=hk _ (cB h)
    refine⟨h1.1,h1.2.1,λy hy e=>?_,?_,h1.2.2.2⟩
    · obtain⟨j,hj,rfl⟩:=Ig.1 hy
      exact(hp j i (by omega) h (by omega)).1 e
    · cases i with
      |zero=>simp[nD];omega
      |succ i=>rw[Mz l i (by omega)];exact(hp i (i+1) (by omega) h (by omega)).2
end M
set_option linter.unusedVariables false
set_option linter.unusedSimpArgs false
namespace M
open Go
def agT{n:Nat}{P:Program}{row:String}{args:Array Value}{w:World}{R:Value->World->Prop}{l:Nat}(h:Rows P row args w R):RowsIn (Fence.wide.inRound l) n P row args w R:=
  λc cs _=>let ⟨v,w',r,s⟩:=h c cs;⟨v,w',r,stepsIn_wide.2 s⟩
def akv{P:Program}{ops:Array Oper}{Q Q':Exit->Act->World->Prop}{i:Nat}{K K':Act->World->Prop}{a:Act}{w:World}{l n:Nat}
    (hnd:∀o,ops[i]?=some o->∀c,o.op≠.defer c)(hQ:∀c a w,¬Q (.panic c) a w)(hlo:¬LetsOut Q)(hK:∀a w,K a w->K' a w)
    (h:wpOp P ops Q i K a w):wpOpIn (Fence.wide.inRound l) n P ops Q' i K' a w:=by
  unfold wpOp at h;unfold wpOpIn;cases ho:ops[i]? with
  |none=>simp only[ho] at h⊢;exact hK _ _ h
  |some o=>
    simp only[ho] at h⊢;split
    · rename_i hw
      rw[aq hw] at h
      rcases h with h|h
      · refine⟨λ_ _=>trivial,?_⟩
        rw[Oper.semAt_eq _ _ _ (hnd o ho)]
        unfold Oper.wp at h
        generalize (execOp a.eval o).run P w=r at h⊢
        match r,h with
        |.ok (.value u) w',h=>exact hK _ _ h
        |.ok .skip w',h=>exact hK _ _ h
        |.ok (.defer d) w',h=>exact hK _ _ h
        |.ok (.enter f args) w',h=>
          refine⟨λhd=>(by cases hd),CallsIn.inRound l (callsIn_wide.2 (Calls.mono h λe w'' he=>?_))⟩
          match e,he with
          |.returned u,he=>exact hK _ _ he
          |.panicked c,he=>exact(hQ _ _ _ he).elim
          |.outgrown,he=>exact(hlo he).elim
        |.ok (.row row args) w',h=>exact⟨λhd=>(by cases hd),RowsIn.mono (agT h) λv w'' he=>hK _ _ he⟩
        |.halt (.panic u) w',h=>exact(hQ _ _ _ h).elim
      · exact(hlo h.2).elim
    · rename_i hw
      rw[ay hw] at h
      exact⟨λ_ _=>trivial,hK _ _ h⟩
def UO{P:Program}{ops:Array Oper}{Q Q':Exit->Act->World->Prop}{l n:Nat}
    (hnd:∀(i:Nat) (o:Oper),ops[i]?=some o->∀c,o.op≠.defer c)(hQ:∀c a w,¬Q (.panic c) a w)(hlo:¬LetsOut Q)(hN:∀a w,Q .normal a w->Q' .normal a w):
    ∀{fuel:Nat} {listed:Array Bool} {a:Act} {w:World},wpAny P .any ops Q fuel listed a w->wpAnyIn (Fence.wide.inRound l) n P .any ops Q' fuel listed a w
  |0,_,_,_,h=>⟨h.1,hN _ _ h.2⟩
  |fuel+1,_,_,_,h=>⟨λhr=>hN _ _ (h.1 hr),λi hi=>akv (hnd i) hQ hlo (λ_ _ h=>UO hnd hQ hlo hN h) (h.2 i hi)⟩
def atEnd(K:Act->World->Prop):Exit->Act->World->Prop
  |.normal,a,w=>K a w
  |_,_,_=>False
def agC{P:Program}{ops:Array Oper}{Q:Exit->Act->World->Prop}{S:World->Prop}{l n id:Nat}{a:Act}{w:World}(hm:P.follows .mixedOrders=true)
    (hnd:(ops.all λo=>match o.op with|.defer _=>false|_=>true)=true)
    {N:Nat}(hN:ops.size=N)(h:wpAnyH P .any ops (atEnd λa w=>Q .normal a w) S N (Array.replicate N false) a w.drew):(Code.region id ops true).wpIn (Fence.wide.inRound l) n P Q a w:=by subst hN;refine wpIn_region_any hm ?_;refine UO (Q:=atEnd λa w=>Q .normal a w) (Q':=Q) (w:=w.drew) (λi o ho c hc=>?_) (λ_ _ _ h=>h) (λ⟨_,_,h⟩=>h) (λ_ _ h=>h) (wpAny_of_held _ _ _ _ h);have:=Array.all_eq_true_iff_forall_mem.1 hnd o (Array.mem_of_getElem? ho);rw[hc] at this;cases this
def aZ{P:Program}{ops:Array Oper}{Q:Exit->Act->World->Prop}{S:World->Prop}{md:Region.Mode}{i d:Nat}{oi:Oper}{v:Value}{fuel:Nat}{listed aX:Array Bool}{tm:Array Value}{df:List Deferred}{w:World}(hi:ops[i]?=some oi)
    (hs:Region.noSelect ops=true)(hf:Region.free md ops listed i=true)(hr:(Region.ready md ops listed).contains i=true)
    (hQ:∀c a w,Q (.panic c) (a.put oi.dst v) w->Q (.panic c) a w)(hd:oi.dst=some d)(hl:listed.setIfInBounds i true=aX)(hS:S w)(hy:YieldsIf P ops S oi v {tmps:=tm,defers:=df})
    (h:wpAnyH P md ops Q S fuel aX {tmps:=tm.setIfInBounds d v,defers:=df} w):wpAnyH P md ops Q S (fuel+1) listed {tmps:=tm,defers:=df} w:=by refine wpAnyH_take hi hs hf hr hQ hy hS ?_;rw[hd,hl];exact h
end M
set_option linter.unusedVariables false
set_option linter.unusedSimpArgs false
namespace Go.Proofs
structure cR where
  p:ByteArray
  a1:Option Addr
  l1:Nat
  c1:Nat
  a2:Option Addr
  l2:Nat
  c2:Nat
  s:Int
  a3:Option Addr
  l3:Nat
  c3:Nat
  b:ByteArray
  t:Int
  k:Int
  q:Int
def cR.v(e:cR):Nat->Value
  |0=>.string e.p
  |1=>.slice e.a1 e.l1 e.c1
  |2=>.slice e.a2 e.l2 e.c2
  |3=>.int .i64 e.s
  |4=>.slice e.a3 e.l3 e.c3
  |5=>.string e.b
  |6=>.int .i64 e.t
  |7=>.int .i64 e.k
  |_=>.int .i64 e.q
def cR.ob(e:cR):Array Value:= #[.string e.p,.slice e.a1 e.l1 e.c1,.slice e.a2 e.l2 e.c2,.int .i64 e.s,.slice e.a3 e.l3 e.c3,.string e.b,.int .i64 e.t]
def cR.kp(e:cR):Array Value:= #[.string e.p,.slice e.a1 e.l1 e.c1,.slice e.a2 e.l2 e.c2,.int .i64 e.s,.slice e.a3 e.l3 e.c3,.string e.b,.int .i64 e.t,.int .i64 e.k,.int .i64 e.q]
def cR.z:cR:=⟨⟨#[]⟩,none,0,0,none,0,0,0,none,0,0,⟨#[]⟩,0,0,0⟩
def xD:Array Value:= #[.string ⟨#[]⟩,.slice none 0 0,.slice none 0 0,.int .i64 0,.slice none 0 0,.string ⟨#[]⟩,.int .i64 0]
end Go.Proofs
namespace M
open Go Go.RowKit Go.Proofs
def WH[Bs]{P:Program}{f:FuncId}{xs:List X}{r:X}
    (h:∀w zl zb cs,cs.map C.er=xs->nQ w zl zb cs->qP w zl zb->Calls P f (cs.map C.val).toArray w λe w'=>∃c:C,e=.returned c.val/\c.er=r/\Below w.heap.size w w'/\kG w w' c):
    AC P f xs λr' ps=>r'=r/\ps=xs.map λ_=>.dead:=by
  intro w zl zb cs e hA iT;refine(h w zl zb cs e hA iT).mono λe' w' ⟨c,he,hc,hb,c1,c2,c3⟩=>?_;have Bb:Ext (λb k=>∃x∈cs,x.fp b k) w w':=⟨hb.os,hb.tape,hb.output,hb.size,λb hl=>.inl (hb.block b hl)⟩;refine⟨c,cs.map λx=>.dead x.val,zl,⟨he,by rw[cM];rfl,Bb,⟨λx hx'=>?_,λx hx'=>?_,λx hx' b k hf=>?_,λb k hz=>jd (hA.cC b k (hz.imp id λh=>h.elim)) hb.size,?_⟩,λx hx' b k hf=>?_,λ_ _ h=>h,λ_ _ h=>.inl h⟩,hc,?_⟩
  · rcases bM.1 hx' with rfl|hx'
    · exact c1 _
    · obtain⟨y,_,rfl⟩:=aY.1 hx';trivial
  · rcases bM.1 hx' with rfl|hx'
    · exact c2
    · obtain⟨y,_,rfl⟩:=aY.1 hx';trivial
  · rcases bM.1 hx' with rfl|hx'
    · have h1:=c3 b k hf
      exact⟨λhz=>by have:=hA.cC b k (.inl hz);omega,λhz=>hz⟩
    · obtain⟨y,_,rfl⟩:=aY.1 hx';exact hf.elim
  · refine ew.2 ⟨λx hx b k hf hf'=>?_,?_⟩
    · obtain⟨y,_,rfl⟩:=aY.1 hx;exact hf'
    · refine lB.2 λi j hi hj _ b k hf=>?_
      obtain⟨y,_,hy⟩:=aY.1 (cB hi)
      rw[<-hy] at hf
      exact hf.elim
  · rcases bM.1 hx' with rfl|hx'
    · exact .inr (c3 b k hf)
    · obtain⟨y,_,rfl⟩:=aY.1 hx';exact hf.elim
  · rw[<-e]
    simp[cM,zS,C.er]
def agP{w w':World}{Z Z':Md->Nat->Nat->Prop}{B sz len cap:Nat}{A:Option Ad}{e:Nat->Nat->C}(hs:∀i j,i<len->j<sz->∃s,e i j=.str s)
    (h:(C.row .own sz A len cap e).ok w Z)(hB:∀b k,(C.row .own sz A len cap e).fp b k->B<=b)
    (hk:∀b arr t fz,B<=b->w.heap[b]?=some (.cells arr t fz)->w'.heap[b]?=some (.cells arr t fz)):(C.row .own sz A len cap e).ok w' Z':=by
  obtain⟨h1,h2,h3,h4,h5⟩:=h;have hA:∀g o,A=some (g,o,none)->B<=g:=λg o e=>hB g 0 ⟨rfl,.inl ⟨o,e⟩⟩;refine⟨h1,λi j hi hj=>?_,λi j hi hj=>?_,λ_=>?_,h5⟩
  · obtain⟨g,o,e1,e2,e3⟩:=h2 i j hi hj
    refine⟨g,o,e1,?_,λhm=>(hm rfl).elim⟩
    unfold World.cell? at e2⊢
    simp only at e2⊢
    cases hg:w.heap[g]? with
    |none=>rw[hg] at e2;simp at e2
    |some ob=>
      cases ob with
      |cells arr t fz=>rw[hk g arr t fz (hA g o e1) hg];rw[hg] at e2;exact e2
      |_=>rw[hg] at e2;simp at e2
  · obtain⟨a1,a2,a3,a4⟩:=h3 i j hi hj
    obtain⟨s,hs⟩:=hs i j hi hj
    refine⟨a1,a2,a3,?_⟩
    rw[hs] at a4⊢
    exact a4
  · rcases h4 rfl with h4|⟨g,o,arr,t,fz,e1,e2,e3,e4⟩
    · exact .inl h4
    · refine .inr ⟨g,o,arr,t,fz,e1,hk g arr t fz (hA g o e1) e2,e3,λk k1 k2=>?_⟩
      have:=e4 k k1 k2
      unfold World.frozen? at this⊢
      simp only at this⊢
      rw[e2] at this
      rw[hk g arr t fz (hA g o e1) e2]
      exact this
def EG{c:C}{xs:List X}(h:c.er=.agg xs):∃f,c=.agg xs.length f/\∀j x,xs[j]?=some x->(f j).er=x:=by
  cases c with
  |agg n f=>
    simp only[C.er,X.agg.injEq] at h;have hn:n=xs.length:=by rw[<-h];simp
    subst hn;refine⟨f,rfl,λj x hj=>?_⟩;obtain⟨hl,_⟩:=aQ.1 hj;rw[<-h] at hj;simp[hl] at hj;exact hj
  |_=>simp[C.er] at h
def Zi{c:C}{m:Md}{xs:List X}(h:c.er=.ptr m xs):∃g o f,c=.ptr m g o xs.length f/\∀j x,xs[j]?=some x->(f j).er=x:=by
  cases c with
  |ptr m' g o n f=>
    simp only[C.er,X.ptr.injEq] at h;obtain⟨rfl,h⟩:=h;have hn:n=xs.length:=by rw[<-h];simp
    subst hn;refine⟨g,o,f,rfl,λj x hj=>?_⟩;obtain⟨hl,_⟩:=aQ.1 hj;rw[<-h] at hj;simp[hl] at hj;exact hj
  |_=>simp[C.er] at h
def agQ{sz len:Nat}{e:Nat->Nat->C}{rows:List (List X)}(hl:len=rows.length)(h:∀i,i<len->rows[i]?=some ((List.range sz).map λj=>(e i j).er))(hr:∀r∈rows,∀x∈r,∃s,x=.str s):∀i j,i<len->j<sz->∃s,e i j=.str s:=by intro i j hi hj;have h1:=h i hi;obtain⟨s,hs⟩:=hr _ (sE h1) (e i j).er (aY.2 ⟨j,oX.2 hj,rfl⟩);exact⟨s,kO hs⟩
def TM(l:List ah):∀r∈l.map eS,∀x∈r,∃s,x=.str s:=by intro r hr x hx;obtain⟨s,_,rfl⟩:=aY.1 hr;simp at hx;exact⟨_,hx⟩
def agS(l:List aM):∀r∈l.map aW,∀x∈r,∃s,x=.str s:=by intro r hr x hx;obtain⟨s,_,rfl⟩:=aY.1 hr;simp at hx;rcases hx with rfl|rfl<;>exact⟨_,rfl⟩
def MZ{w w':World}{Z Z':Md->Nat->Nat->Prop}{B sz:Nat}{c:C}{rows:List (List X)}(hr:∀r∈rows,∀x∈r,∃s,x=.str s)(h:c.er=.row .own sz rows)(hok:c.ok w Z)(hB:∀b k,c.fp b k->B<=b)
    (hk:∀b arr t fz,B<=b->w.heap[b]?=some (.cells arr t fz)->w'.heap[b]?=some (.cells arr t fz)):c.ok w' Z':=by obtain⟨A,len,cap,e,rfl,hlen,hrow⟩:=uZ h;exact agP (agQ hlen hrow hr) hok hB hk
def afh{w w':World}{Z Z':Md->Nat->Nat->Prop}{B:Nat}{c:C}{o:Ob}(h:c.er=.agg (cE .own o))(hok:c.ok w Z)(hB:∀b k,c.fp b k->B<=b)
    (hk:∀b arr t fz,B<=b->w.heap[b]?=some (.cells arr t fz)->w'.heap[b]?=some (.cells arr t fz)):c.ok w' Z':=by
  obtain⟨f,rfl,hf⟩:=EG h;obtain⟨h1,h2⟩:=hok;have bZ:∀j,j<7->∀b k,(f j).fp b k->B<=b:=λj hj b k hh=>hB b k ⟨j,hj,hh⟩;refine⟨λj hj=>⟨(h1 j hj).1,?_⟩,h2⟩;have RI:j<7:=hj;have ho:=(h1 j hj).2;have hb:=bZ j RI;have e0:=hf 0 _ rfl;have e1:=hf 1 _ rfl;have e2:=hf 2 _ rfl;have e3:=hf 3 _ rfl;have e4:=hf 4 _ rfl;have e5:=hf 5 _ rfl;have e6:=hf 6 _ rfl;match j,RI with
  |0,_=>rw[kO e0] at ho⊢;exact ho
  |1,_=>exact MZ (TM _) e1 ho hb hk
  |2,_=>exact MZ (TM _) e2 ho hb hk
  |3,_=>rw[nW e3];trivial
  |4,_=>exact MZ (agS _) e4 ho hb hk
  |5,_=>rw[kO e5] at ho⊢;exact ho
  |6,_=>rw[nW e6];trivial
def um{c:C}{m:Md}{z:Nat}{rows:List (List X)}(h:c.er=.row m z rows):∃A len cap,c.val=.slice A len cap:=by obtain⟨A,len,cap,e,rfl,_,_⟩:=uZ h;exact⟨_,_,_,rfl⟩
def Zg{f:Nat->C}{k:Kp}{m:Md}(h:∀j x,(au m k)[j]?=some x->(f j).er=x):∃x:cR,(∀j,j<9->(f j).val=x.v j)/\x.p=⟨k.obj.path.toArray⟩:=by
  obtain⟨A1,l1,c1,h1⟩:=um (h 1 _ rfl);obtain⟨A2,l2,c2,h2⟩:=um (h 2 _ rfl);obtain⟨A4,l4,c4,h4⟩:=um (h 4 _ rfl);refine⟨⟨⟨k.obj.path.toArray⟩,A1,l1,c1,A2,l2,c2,k.obj.resp.status,A4,l4,c4,⟨k.obj.resp.body.toArray⟩,k.obj.t,k.at_,k.seq⟩,λj hj=>?_,rfl⟩;match j,hj with
  |0,_=>rw[kO (h 0 _ rfl)];rfl
  |1,_=>exact h1
  |2,_=>exact h2
  |3,_=>rw[nW (h 3 _ rfl)];rfl
  |4,_=>exact h4
  |5,_=>rw[kO (h 5 _ rfl)];rfl
  |6,_=>rw[nW (h 6 _ rfl)];rfl
  |7,_=>rw[nW (h 7 _ rfl)];rfl
  |8,_=>rw[nW (h 8 _ rfl)];rfl
def WW{W:World}{zl zb:Nat->Nat->Prop}{l:List C}(h:∀x∈l,x.ok W (Zf zl zb)/\x.bare/\∀b k,¬x.fp b k)(hz:∀b k,zl b k\/zb b k->b<W.heap.size):nQ W zl zb l:=
  ⟨λx hx=>(h x hx).1,λx hx=>(h x hx).2.1,λx hx b k hf=>((h x hx).2.2 b k hf).elim,hz,lB.2 λi j hi hj _ b k hf=>((h _ (cB hi)).2.2 b k hf).elim⟩
def J3[Bs]{w W:World}{zl zb:Nat->Nat->Prop}(h:qP w zl zb)(hb:Below w.heap.size w W):qP W zl zb:=λb hb0=>by
  obtain⟨h1,h2⟩:=h b hb0
  have hlt:b<w.heap.size:=by
    rcases gb b w.heap.size with h'|h';· exact h'
    · rw[jW h'] at h1
      have:=DS hb0
      rw[<-h1] at this
      cases this
  exact⟨(hb.block b hlt).trans h1,h2⟩
def Mr{w W:World}{zl zb:Nat->Nat->Prop}(hz:∀b k,zl b k\/zb b k->b<w.heap.size)(hb:Below w.heap.size w W){c:C}(h:c.ok w (Zf zl zb)):c.ok W (Zf zl zb):=
  C.fu (S:=λ_ _=>False) (⟨hb.os,hb.tape,hb.output,hb.size,λb hl=>.inl (hb.block b hl)⟩:Ext (λ_ _=>False) w W) (λ_ _ _ _ hs=>hs) c (λ_ _ _ hs=>hs) h
def Jn[Bs]{P:Program}{f:FuncId}{xs:List X}{r0:X}(hac:AC P f xs λr _=>r=r0){W:World}{zl zb:Nat->Nat->Prop}{cs:List C}(he:cs.map C.er=xs)(hl:∀x∈cs,x.ok W (Zf zl zb)/\x.bare/\∀b k,¬x.fp b k)(hz:∀b k,zl b k\/zb b k->b<W.heap.size)(hg:qP W zl zb):
    Calls P f (cs.map C.val).toArray W λe w'=>∃r:C,e=.returned r.val/\r.er=r0/\Below W.heap.size W w'/\(∃Z,r.ok w' Z)/\r.bare/\∀b k,r.fp b k->W.heap.size<=b:=
  (hac W zl zb cs he (WW hl hz) hg).mono λe w' ⟨r,ps,aH,hD,hr⟩=>
    ⟨r,hD.ends,hr,(hD.ext.mono (S':=λ_ _=>False) λb k ⟨x,hx,hf⟩ _=>(hl x hx).2.2 b k hf).below,⟨_,hD.all.ok _ (bE ..)⟩,hD.all.bare _ (bE ..),λb k hf=>by
      rcases hD.dom r (bE ..) b k hf with ⟨y,hy,hf⟩|h;· exact((hl y hy).2.2 b k hf).elim
      · exact h⟩
def afg{c:C}{m:Md}{o:Ob}(h:c.er=.agg (cE m o)):∃O:cR,c.val=.agg O.ob:=by obtain⟨f,rfl,hf⟩:=EG h;obtain⟨A1,l1,c1,h1⟩:=um (hf 1 _ rfl);obtain⟨A2,l2,c2,h2⟩:=um (hf 2 _ rfl);obtain⟨A4,l4,c4,h4⟩:=um (hf 4 _ rfl);refine⟨⟨⟨o.path.toArray⟩,A1,l1,c1,A2,l2,c2,o.resp.status,A4,l4,c4,⟨o.resp.body.toArray⟩,o.t,0,0⟩,?_⟩;have e0:=kO (hf 0 _ rfl);have e3:=nW (hf 3 _ rfl);have e5:=kO (hf 5 _ rfl);have e6:=nW (hf 6 _ rfl);simp[C.val,cR.ob,mE,h1,h2,h4,e0,e3,e5,e6]
def ZC{α:Type}{p:α->Bool}{l:List α}{i:Nat}{hi:i<l.length}(h:p l[i]=true)(h2:∀j (hj:j<l.length),i<j->p l[j]=false):l.reverse.find? p=some l[i]:=by
  have e:l=l.take i++l[i]::l.drop (i+1):=by rw[<-o7 hi,Ii]
  have hd:∀x∈(l.drop (i+1)).reverse,¬p x=true:=by intro x hx;obtain⟨j,hj,rfl⟩:=nO (NK.1 hx);rw[Og];rw[wW] at hj;simp[h2 (i+1+j) (by omega) (by omega)]
  conv=>lhs;rw[e]
  rw[Vj,NN,sJ,List.find?_append,List.find?_eq_none.2 hd];simp[h]
def zO:Ob:=⟨[],[],[],⟨0,[],[]⟩,0⟩
def xH(pS:List ah->List ah->List aM->Bool)(pH:List Bn->Ob->Bool)(s:Sh)(q:Rq):Option Ob:=
  (s.aC.reverse.find? λk=>decide (k.obj.path=q.path) && pS k.obj.names k.obj.values q.fields && !pH s.aG k.obj).map λk=>k.obj
def xG(pS:List ah->List ah->List aM->Bool)(pH:List Bn->Ob->Bool)(s:Sh)(q:Rq):X:=.ak [.agg (cE .own ((xH pS pH s q).getD zO)),.bool (xH pS pH s q).isSome]
open Classical in
noncomputable def AL(pS:List ah->List ah->List aM->Bool)(pH:List Bn->Ob->Bool)(xs:List X):Option X:=
  if h:∃r,∃s q,xs=[.ptr .af (bp .af s),.agg (dN .af q)]/\cx s<=1073741824/\bn q<=1073741824/\r=xG pS pH s q then some h.choose else none
def zF(j:Nat):C:=if j=0\/j=5 then .str ⟨#[]⟩ else if j=3\/j=6 then .int .i64 0 else .row .own (if j=4 then 2 else 1) none 0 0 λ_ _=>.dead undef
def zC:C:=.agg 7 zF
def akT:zC.er=.agg (cE .own zO):=by simp[zC,zF,C.er,mE,zO]
def akV:zC.val=.agg xD:=by simp[zC,zF,C.val,mE,xD]
def Ve(j b k:Nat):¬(zF j).fp b k:=by
  unfold zF;split;· exact λh=>h
  · split
    · exact λh=>h
    · rintro ⟨_,⟨o,h⟩|⟨i,_,hi,_⟩⟩
      · cases h
      · omega
def akU{w w':World}:kG w w' zC:=by
  refine⟨λZ=>⟨λj hj=>?_,λj hj b k hf=>(Ve j b k hf).elim⟩,λj hj=>?_,λb k ⟨j,hj,hf⟩=>(Ve j b k hf).elim⟩
  · unfold zF
    split
    · exact⟨trivial,by show (0:Nat)<=_;omega⟩
    · split
      · exact⟨trivial,trivial⟩
      · exact⟨trivial,dc _,λi j hi=>by omega,λi j hi=>by omega,λ_=>.inl ⟨rfl,rfl⟩,λi j hi=>by omega⟩
  · unfold zF
    split
    · trivial
    · split<;>trivial
def Q1{w w':World}{c:C}{b:Bool}(h:kG w w' c)(hn:c.fX):kG w w' (mz [c,.bool b]):=by
  refine⟨λZ=>⟨λj hj=>?_,λj hj x k hf j' hj' hne hf'=>?_⟩,λj hj=>?_,λx k ⟨j,hj,hf⟩=>?_⟩
  · match j,hj with
    |0,_=>exact⟨hn,h.1 Z⟩
    |1,_=>exact⟨trivial,trivial⟩
  · match j,hj,j',hj' with
    |0,_,1,_=>exact hf'
    |1,_,_,_=>exact hf
    |0,_,0,_=>exact hne rfl
  · match j,hj with
    |0,_=>exact h.2.1
    |1,_=>trivial
  · match j,hj with
    |0,_=>exact h.2.2 x k hf
    |1,_=>exact hf.elim
def aeW[Bs]{P:Program}{f0:FuncId}{g:List X->Option X}
    (h:∀xs r,g xs=some r->∀w zl zb cs,cs.map C.er=xs->nQ w zl zb cs->qP w zl zb->Calls P f0 (cs.map C.val).toArray w λe w'=>∃c:C,e=.returned c.val/\c.er=r/\Below w.heap.size w w'/\kG w w' c):(dx f0 g).Sound P:=λf xs o e=>by
  unfold dx at e;split at e
  · rename_i hf
    subst hf
    split at e
    · rename_i r hr
      cases e
      exact WH (h xs r hr)
    · cases e
  · cases e
def ahl{c:C}(h:c.cN):c.bare:=by cases c<;>first|trivial|exact h.elim
def ZE{c:C}(h:c.cN)(hf:c.fits .af)(b k:Nat):¬c.fp b k:=by
  cases c with
  |row m sz A len cap e=>rintro ⟨rfl,_⟩;rcases hf with h|h|⟨_,h⟩<;>cases h
  |ptr=>exact h.elim
  |agg=>exact h.elim
  |ak=>exact h.elim
  |_=>exact λh=>h
def OQ{c:C}{z:Nat}{rows:List (List X)}(h:c.er=.row .af z rows)(b k:Nat):¬c.fp b k:=by obtain⟨A,len,cap,e,rfl,_,_⟩:=uZ h;rintro ⟨h,_⟩;cases h
def TK{c:C}{m:Md}{z:Nat}{rows:List (List X)}(h:c.er=.row m z rows):c.bare:=by obtain⟨A,len,cap,e,rfl,_,_⟩:=uZ h;trivial
def ZD[Bs]{P:Program}{f0 fs fh fc:FuncId}{pS:List ah->List ah->List aM->Bool}{pH:List Bn->Ob->Bool}
    (hS:∀(ns vs:List ah) (fl:List aM),ns.length<=1073741824->vs.length<=1073741824->fl.length<=1073741824->AC P fs [.row .af 1 (ns.map eS),.row .af 1 (vs.map eS),.row .af 2 (fl.map aW)] λr _=>r=.bool (pS ns vs fl))
    (hH:∀(l:List Bn) (o:Ob),wL bz l<=1073741824->aU o<=1073741824->AC P fh [.row .af 4 (l.map cY),.agg (cE .af o)] λr _=>r=.bool (pH l o))
    (hC:∀(o:Ob),aU o<=1073741824->AC P fc [.agg (cE .af o)] λr _=>r=.agg (cE .own o))
    (hw:∀(g o:Nat) (A Ab Aq:Option Addr) (len cap lb cb lq cq:Nat) (qm:Int) (qs qb:ByteArray) (E:Nat->cR) (pS pH:Nat->Bool) (R:Nat->cR->World->World->Prop) (w:World),
      len<=1073741824->g<w.heap.size->w.cell? ⟨g,o+2,none⟩=some (.slice A len cap)->w.cell? ⟨g,o+3,none⟩=some (.slice Ab lb cb)->
      (∀i j,i<len->j<9->∃g o,A=some ⟨g,o,none⟩/\g<w.heap.size/\w.cell? ⟨g,o+i*9+j,none⟩=some ((E i).v j))->
      (∀i,i<len->∀W,Below w.heap.size w W->Calls P fs #[.slice (E i).a1 (E i).l1 (E i).c1,.slice (E i).a2 (E i).l2 (E i).c2,.slice Aq lq cq] W λe W'=>e=.returned (.bool (pS i))/\Below W.heap.size W W')->
      (∀i,i<len->∀W,Below w.heap.size w W->Calls P fh #[.slice Ab lb cb,.agg (E i).ob] W λe W'=>e=.returned (.bool (pH i))/\Below W.heap.size W W')->
      (∀i,i<len->∀W,Below w.heap.size w W->Calls P fc #[.agg (E i).ob] W λe W'=>∃O:cR,e=.returned (.agg O.ob)/\Below W.heap.size W W'/\R i O W W')->
      Calls P f0 #[.pointer (some ⟨g,o,none⟩),.agg #[.int .i64 qm,.string qs,.slice Aq lq cq,.string qb]] w λe W'=>Below w.heap.size w W'/\
        ((e=.returned (.tuple #[.agg xD,.bool false])/\∀i,i<len->¬((E i).p=qs/\pS i=true/\pH i=false))\/
         (∃i O W1 W2,i<len/\e=.returned (.tuple #[.agg (cR.ob O),.bool true])/\((E i).p=qs/\pS i=true/\pH i=false)/\(∀i',i<i'->i'<len->¬((E i').p=qs/\pS i'=true/\pH i'=false))/\
            Below w.heap.size w W1/\R i O W1 W2/\∀b arr t fz,W1.heap.size<=b->W2.heap[b]?=some (.cells arr t fz)->W'.heap[b]?=some (.cells arr t fz)))):
    (dx f0 (AL pS pH)).Sound P:=
  aeW λxs r hg w zl zb cs hx hA iT=>by
    unfold AL at hg;split at hg
    · rename_i h
      obtain⟨s,q,hxs,fG,fH,hr⟩:=h.choose_spec
      cases hg
      rw[hr]
      rw[hxs] at hx
      obtain⟨c1,r1,rfl,h1,h2⟩:=map_cons hx
      obtain⟨c2,r2,rfl,h3,h4⟩:=map_cons h2
      obtain rfl:=map_nil h4
      obtain⟨g,o,f,rfl,hf⟩:=Zi h1
      obtain⟨fq,rfl,nZ⟩:=EG h3
      have ok1:=hA.ok _ (bE ..)
      have ok2:=hA.ok _ (cI _ (bE ..))
      have Fu:=hA.cC
      obtain⟨k1,k2,k3,k4⟩:=ok1
      obtain⟨q1,q2⟩:=ok2
      obtain⟨A,len,cap,e,iI,hlen,hrow⟩:=uZ (hf 2 _ rfl)
      obtain⟨Ab,lb,cb,RU⟩:=um (hf 3 _ rfl)
      obtain⟨Aq,lq,cq,RX⟩:=um (nZ 2 _ rfl)
      have hq0:=nW (nZ 0 _ rfl)
      have hq1:=kO (nZ 1 _ rfl)
      have hq3:=kO (nZ 3 _ rfl)
      have S5:=(k3 2 (by show 2<6;omega)).2.2
      rw[iI] at S5
      obtain⟨m1,m2,m3,m4,m5⟩:=S5
      have hlo:len=s.aC.length:=by rw[hlen];simp
      have iK:cx s=dm s.aP+wL cQ s.aC+wL bz s.aG:=rfl
      have Fq:bn q=q.path.length+wL aL q.fields+q.body.length:=rfl
      have Ks:=bg (w:=cQ) s.aC
      have jm:=bg (w:=aL) q.fields
      have hent:∀i (hi:i<len),∀j x,(au .af (s.aC[i]'(by omega)))[j]?=some x->(e i j).er=x:=by intro i hi j x hj;have h5:=hrow i hi;rw[cV,cr (by omega)] at h5;simp only[cG,dH] at h5;rw[h5] at hj;obtain⟨hl,_⟩:=aQ.1 hj;simp only[cX,uC] at hl;simp only[cV,qL hl,cG,dH] at hj;exact hj
      have hE:∀i (hi:i<len),∃x:cR,(∀j,j<9->(e i j).val=x.v j)/\x.p=⟨(s.aC[i]'(by omega)).obj.path.toArray⟩:=λi hi=>Zg (hent i hi)
      obtain⟨E,AX⟩:∃E:Nat->cR,∀i (hi:i<len),(∀j,j<9->(e i j).val=(E i).v j)/\(E i).p=⟨(s.aC[i]'(by omega)).obj.path.toArray⟩:=
        ⟨λi=>if h:i<len then (hE i h).choose else cR.z,λi hi=>by simp only[oZ hi];exact(hE i hi).choose_spec⟩
      have xP:∀W,Below w.heap.size w W->∀i,i<len->∀j,j<9->(e i j).ok W (Zf zl zb)/\(e i j).bare/\∀b k,¬(e i j).fp b k:=λW hb i hi j hj=>
        ⟨Mr Fu hb (m3 i j hi hj).2.2.2,ahl (m3 i j hi hj).2.1,ZE (m3 i j hi hj).2.1 (m3 i j hi hj).2.2.1⟩
      have KO:∀W,Below w.heap.size w W->∀b k,zl b k\/zb b k->b<W.heap.size:=λW hb b k h=>jd (Fu b k h) hb.size
      have hqf:∀W,Below w.heap.size w W->(fq 2).ok W (Zf zl zb)/\(fq 2).bare/\∀b k,¬(fq 2).fp b k:=λW hb=>⟨Mr Fu hb (q1 2 (by show 2<4;omega)).2,TK (nZ 2 _ rfl),OQ (nZ 2 _ rfl)⟩
      have hbf:∀W,Below w.heap.size w W->(f 3).ok W (Zf zl zb)/\(f 3).bare/\∀b k,¬(f 3).fp b k:=λW hb=>⟨Mr Fu hb (k3 3 (by show 3<6;omega)).2.2,TK (hf 3 _ rfl),OQ (hf 3 _ rfl)⟩
      have Fh:∀i (hi:i<len),(C.agg 7 (e i)).er=.agg (cE .af (s.aC[i]'(by omega)).obj)/\(C.agg 7 (e i)).val=.agg (E i).ob:=by
        intro i hi;obtain⟨v1,v2⟩:=AX i hi;have hn:=hent i hi;refine⟨?_,?_⟩
        · have e0:=hn 0 _ rfl
          have e1:=hn 1 _ rfl
          have e2:=hn 2 _ rfl
          have e3:=hn 3 _ rfl
          have e4:=hn 4 _ rfl
          have e5:=hn 5 _ rfl
          have e6:=hn 6 _ rfl
          simp only[C.er,mE,List.range_zero,kB,gS,bC,jF,e0,e1,e2,e3,e4,e5,e6]
          rfl
        · have u0:=v1 0 (by decide)
          have u1:=v1 1 (by decide)
          have u2:=v1 2 (by decide)
          have u3:=v1 3 (by decide)
          have u4:=v1 4 (by decide)
          have u5:=v1 5 (by decide)
          have u6:=v1 6 (by decide)
          simp only[C.val,mE,List.range_zero,kB,gS,bC,jF,u0,u1,u2,u3,u4,u5,u6,cR.v,cR.ob]
      have hal:∀W,Below w.heap.size w W->∀i,i<len->(C.agg 7 (e i)).ok W (Zf zl zb)/\(C.agg 7 (e i)).bare/\∀b k,¬(C.agg 7 (e i)).fp b k:=λW hb i hi=>
        ⟨⟨λj hj=>⟨(m3 i j hi (by omega)).1,(xP W hb i hi j (by omega)).1⟩,λj hj b k bZ=>((xP W hb i hi j (by omega)).2.2 b k bZ).elim⟩,λj hj=>(xP W hb i hi j (by omega)).2.1,λb k ⟨j,hj,bZ⟩=>(xP W hb i hi j (by omega)).2.2 b k bZ⟩
      have KL:∀i (hi:i<len),aU (s.aC[i]'(by omega)).obj<=1073741824:=λi hi=>by have:=sy (cB (show i<s.aC.length by omega));omega
      have key:=hw g o (A.map λq=>⟨q.1,q.2.1,q.2.2⟩) Ab Aq len cap lb cb lq cq q.method ⟨q.path.toArray⟩ ⟨q.body.toArray⟩ E
        (λi=>(s.aC[i]?).elim false λk=>pS k.obj.names k.obj.values q.fields) (λi=>(s.aC[i]?).elim false λk=>pH s.aG k.obj)
        (λi O W W'=>∃k,s.aC[i]?=some k/\∃c:C,c.er=.agg (cE .own k.obj)/\c.val=.agg O.ob/\(∃Z,c.ok W' Z)/\c.bare/\∀b k,c.fp b k->W.heap.size<=b)
        w (by omega) k2 ?k1 ?k2 ?k3 ?k4 ?k5 ?k6
      · have ha:([C.ptr .af g o (bp .af s).length f,C.agg (dN .af q).length fq].map C.val).toArray= #[.pointer (some ⟨g,o,none⟩),.agg #[.int .i64 q.method,.string ⟨q.path.toArray⟩,.slice Aq lq cq,.string ⟨q.body.toArray⟩]]:=by
          simp[C.val,mE,hq0,hq1,RX,hq3]
        rw[ha]
        have KF:∀i (hi:i<s.aC.length),((E i).p=⟨q.path.toArray⟩/\(s.aC[i]?.elim false λk=>pS k.obj.names k.obj.values q.fields)=true/\(s.aC[i]?.elim false λk=>pH s.aG k.obj)=false)↔(decide (s.aC[i].obj.path=q.path) && pS s.aC[i].obj.names s.aC[i].obj.values q.fields && !pH s.aG s.aC[i].obj)=true:=by
          intro i hi;rw[(AX i (by omega)).2,cr hi];simp only[Option.elim_some,av,bx,o6,N0];constructor
          · rintro ⟨a1,a2,a3⟩
            exact⟨⟨by simpa using dB Array.toList a1,a2⟩,a3⟩
          · rintro ⟨⟨a1,a2⟩,a3⟩
            exact⟨by rw[a1],a2,a3⟩
        refine Calls.mono key λe' w' ⟨hb,hres⟩=>?_
        rcases hres with ⟨rfl,hno⟩|⟨i,O,W1,W2,hi,rfl,hp,Ku,hbW,⟨k,hk,c,h5,h6,⟨Z,h7⟩,h8,h9⟩,hst⟩
        · have hnone:xH pS pH s q=none:=by
            unfold xH;rw[List.find?_eq_none.2];· rfl
            · intro k hk
              obtain⟨i,hi,rfl⟩:=nO (NK.1 hk)
              exact λh=>hno i (by omega) ((KF i hi).2 h)
          refine⟨mz [zC,.bool false],?_,?_,hb,Q1 akU trivial⟩
          · simp[mz,C.val,mE,akV]
          · unfold xG
            rw[hnone]
            simp[mz,C.er,mE,akT]
        · have hi2:i<s.aC.length:=by omega
          rw[cr hi2] at hk
          cases hk
          have hsome:xH pS pH s q=some s.aC[i].obj:=by
            unfold xH;rw[ZC (hi:=hi2) ((KF i hi2).1 hp) (λj hj hij=>by have:=Ku j hij (by omega);rw[KF j hj] at this;simpa using this)]
            rfl
          have hfc:kG w w' c:=by refine⟨λZ'=>afh h5 h7 h9 hst,h8,λb k hf=>jB hbW.size (h9 b k hf)⟩
          refine⟨mz [c,.bool true],?_,?_,hb,Q1 hfc ?_⟩
          · simp[mz,C.val,mE,h6]
          · unfold xG
            rw[hsome]
            simp[mz,C.er,mE,h5]
          · obtain⟨fo,rfl,_⟩:=EG h5
            trivial
      case k1=>
        have:=(k1 2 (by show 2<6;omega)).1
        rw[iI] at this
        exact this
      case k2=>
        have:=(k1 3 (by show 3<6;omega)).1
        rw[RU] at this
        exact this
      case k3=>
        intro i j hi hj
        obtain⟨g',o',e1,e2,_⟩:=m2 i j hi hj
        rw[(AX i hi).1 j hj] at e2
        refine⟨g',o',by rw[e1];rfl,?_,e2⟩
        rcases gb g' w.heap.size with h|h
        · exact h
        · simp[World.cell?,jW h] at e2
      case k4=>
        intro i hi W hb
        have ho:=KL i hi
        have dF:∀o:Ob,aU o=o.path.length+wL wS o.names+wL wS o.values+aJ o.resp:=λ_=>rfl
        have:=dF (s.aC[i]'(by omega)).obj
        have n1:=bg (w:=wS) (s.aC[i]'(by omega)).obj.names
        have n2:=bg (w:=wS) (s.aC[i]'(by omega)).obj.values
        have hc:=Jn (hS (s.aC[i]'(by omega)).obj.names (s.aC[i]'(by omega)).obj.values q.fields (by omega) (by omega) (by omega)) (W:=W) (zl:=zl) (zb:=zb) (cs:=[e i 1,e i 2,fq 2]) (by
          simp only[bC,jF];rw[hent i hi 1 _ rfl,hent i hi 2 _ rfl,nZ 2 _ rfl]) (λx hx=>by
          simp only[bM,mD,mI] at hx;rcases hx with rfl|rfl|rfl;· exact xP W hb i hi 1 (by decide)
          · exact xP W hb i hi 2 (by decide)
          · exact hqf W hb) (KO W hb) (J3 iT hb)
        simp only[bC,jF,(AX i hi).1 1 (by decide),(AX i hi).1 2 (by decide),RX] at hc
        refine Calls.mono hc λe' w' ⟨r,h5,h6,h7,_⟩=>⟨?_,h7⟩
        rw[h5,Qm h6,cr (show i<s.aC.length by omega)]
        rfl
      case k5=>
        intro i hi W hb
        have hc:=Jn (hH s.aG (s.aC[i]'(by omega)).obj (by omega) (KL i hi)) (W:=W) (zl:=zl) (zb:=zb) (cs:=[f 3,.agg 7 (e i)]) (by
          simp only[bC,jF];rw[(Fh i hi).1,hf 3 _ rfl]) (λx hx=>by
          simp only[bM,mD,mI] at hx;rcases hx with rfl|rfl;· exact hbf W hb
          · exact hal W hb i hi) (KO W hb) (J3 iT hb)
        simp only[bC,jF,(Fh i hi).2,RU] at hc
        refine Calls.mono hc λe' w' ⟨r,h5,h6,h7,_⟩=>⟨?_,h7⟩
        rw[h5,Qm h6,cr (show i<s.aC.length by omega)]
        rfl
      case k6=>
        intro i hi W hb
        have hc:=Jn (hC (s.aC[i]'(by omega)).obj (KL i hi)) (W:=W) (zl:=zl) (zb:=zb) (cs:=[.agg 7 (e i)]) (by
          simp only[bC,jF];rw[(Fh i hi).1]) (λx hx=>by
          simp only[bM,mD,mI] at hx;rcases hx with rfl;exact hal W hb i hi) (KO W hb) (J3 iT hb)
        simp only[bC,jF,(Fh i hi).2] at hc
        refine Calls.mono hc λe' w' ⟨r,h5,h6,h7,h8,h9,h10⟩=>?_
        obtain⟨O,hO⟩:=afg h6
        exact⟨O,by rw[h5,hO],h7,_,cr (show i<s.aC.length by omega),r,h6,hO,h8,h9,h10⟩
    · cases hg
end M
set_option linter.unusedVariables false
set_option linter.unusedSimpArgs false
namespace M
open Go
def rT{α β:Type}{f:α->β}(hf:∀a b,f a=f b->a=b):∀{l l':List α},l.map f=l'.map f->l=l'
  |[],[],_=>rfl
  |[],_::_,h=>by cases h
  |_::_,[],h=>by cases h
  |a::l,b::l',h=>by simp only[bC,nM] at h;rw[hf _ _ h.1,rT hf h.2]
def JJ(a b:ah)(h:eS a=eS b):a=b:=by simpa using h
def P8(a b:aM)(h:aW a=aW b):a=b:=by cases a;cases b;simpa using h
def Ze(a b:Wr)(h:eW a=eW b):a=b:=by cases a;cases b;simpa using h
def Y9(a b:Bn)(h:cY a=cY b):a=b:=by cases a;cases b;simpa using h
def Zb{m:Md}(a b:Rq)(h:dN m a=dN m b):a=b:=by obtain⟨a1,a2,a3,a4⟩:=a;obtain⟨b1,b2,b3,b4⟩:=b;simp only[dN,nM,X.int.injEq,X.str.injEq,X.row.injEq,N0,uB,wT] at h;obtain⟨h1,h2,h3,h4⟩:=h;rw[h1,rT P8 h3,show a2=b2 by simpa using h2,show a4=b4 by simpa using h4]
def Za{m:Md}(a b:Kp)(h:au m a=au m b):a=b:=by obtain⟨⟨a1,a2,a3,⟨a4,a5,a6⟩,a7⟩,a8,a9⟩:=a;obtain⟨⟨b1,b2,b3,⟨b4,b5,b6⟩,b7⟩,b8,b9⟩:=b;simp only[au,nM,X.int.injEq,X.str.injEq,X.row.injEq,N0,uB,wT] at h;obtain⟨h1,h2,h3,h4,h5,h6,h7,h8,h9⟩:=h;rw[show a1=b1 by simpa using h1,rT JJ h2,rT JJ h3,h4,rT P8 h5,show a6=b6 by simpa using h6,h7,h8,h9]
def Zc{m:Md}(a b:Sh)(h:bp m a=bp m b):a=b:=by obtain⟨⟨a1,a2⟩,a3,a4,a5,a6⟩:=a;obtain⟨⟨b1,b2⟩,b3,b4,b5,b6⟩:=b;simp only[bp,nM,X.int.injEq,X.row.injEq,uB,wT] at h;obtain⟨h1,h2,h3,h4,h5,h6⟩:=h;rw[rT JJ h1,rT Ze h2,rT Za h3,rT Y9 h4,h5,h6]
def Zz(pS:List ah->List ah->List aM->Bool)(pH:List Bn->Ob->Bool)(s:Sh)(q:Rq)(hs:cx s<=1073741824)(hq:bn q<=1073741824):AL pS pH [.ptr .af (bp .af s),.agg (dN .af q)]=some (xG pS pH s q):=by unfold AL;have h:∃r,∃s' q',([.ptr .af (bp .af s),.agg (dN .af q)]:List X)=[.ptr .af (bp .af s'),.agg (dN .af q')]/\cx s'<=1073741824/\bn q'<=1073741824/\r=xG pS pH s' q':=⟨_,s,q,rfl,hs,hq,rfl⟩;rw[oZ h];obtain⟨s',q',he,_,_,hr⟩:=h.choose_spec;rw[hr];simp only[nM,X.ptr.injEq,X.agg.injEq,uB,wT] at he;rw[Zc _ _ he.1,Zb _ _ he.2]
end M
set_option linter.unusedVariables false
set_option linter.unusedSimpArgs false
namespace M
open Go Go.RowKit
def GJ(A:Option Ad)(b _k:Nat):Prop:=∃o,A=some (b,o,none)
def agN{w w2:World}{z len len' cap:Nat}{A:Option Ad}{e e':Nat->Nat->C}{Z Z':Md->Nat->Nat->Prop}(h:(C.row .own z A len cap e).ok w Z)(hE:Ext (GJ A) w w2)(hl:len'<=cap)
    (hc:∀i j,i<len'->j<z->∃g o,A=some (g,o,none)/\w2.cell? ⟨g,o+i*z+j,none⟩=some (e' i j).val)
    (hk:∀i j,i<len'->j<z->(e' i j).cell/\(e' i j).cN/\(e' i j).ok w2 Z')
    (hd:∀i j,i<len'->j<z->∀b k,(e' i j).fp b k->(∀o,A≠some (b,o,none))/\∀i' j',i'<len'->j'<z->(i,j)≠(i',j')->¬(e' i' j').fp b k):
    (C.row .own z A len' cap e').ok w2 Z':=by
  obtain⟨r1,r2,r3,r4,r5⟩:=h;refine⟨hl,λi j hi hj=>?_,λi j hi hj=>?_,λ_=>?_,λi j hi hj b k hf=>?_⟩
  · obtain⟨g,o,a1,a2⟩:=hc i j hi hj
    exact⟨g,o,a1,a2,λhm=>absurd rfl hm⟩
  · obtain⟨a1,a2,a3⟩:=hk i j hi hj
    refine⟨a1,a2,?_,a3⟩
    cases hq:e' i j<;>first|trivial|exact .inl rfl
  · rcases r4 rfl with h|⟨g,o,arr,t,fz,hA,hh,hsz,hfr⟩
    · exact .inl h
    · have hg:g<w.heap.size:=(gC.1 hh).1
      rcases hE.block g hg with e1|⟨a1,a2,t',lJ,e1,e2,e3,_⟩
      · exact .inr ⟨g,o,arr,t,fz,hA,e1.trans hh,hsz,λk hk hk'=>(hE.frozen hg).trans (hfr k hk hk')⟩
      · rw[hh] at e1
        cases e1
        exact .inr ⟨g,o,a2,t,fz,hA,e2,by omega,λk hk hk'=>(hE.frozen hg).trans (hfr k hk hk')⟩
  · obtain⟨a1,a2⟩:=hd i j hi hj b k hf
    exact⟨λ_=>a1,a2⟩
def ED(f0 z:Nat):ct:=λf xs=>if f=f0 then (match xs with
  |[.row .own z' rows,.int .i64 i,.int .i64 j]=>if z'=z/\0<=i/\i.toNat<rows.length/\j=i+1/\X.clean.bw rows=true then some (.row .own z (rows.eraseIdx i.toNat),[.dead,.dead,.dead]) else none
  |_=>none) else none
def JG{z t:Nat}(h0:0<z):t / z*z+t%z=t:=by rw[lC];exact zQ t z
def Y2[B:Bs]{P:Program}{f0 z:Nat}{zv:List Value}(h0:0<z)(hzl:zv.length=z)
    (hc:∀(blk off cap len i:Nat) (news:List Value) (w:World),i<len->len<=cap->news.length=(len - (i+1))*z->
      (∀t u,news[t]?=some u->w.cell? ⟨blk,off+(i+1)*z+t,none⟩=some u)->(∀u∈news,u.oneCell'=true)->
      (∀t,t<len*z->(w.cell? ⟨blk,off+t,none⟩).isSome=true/\w.frozen? ⟨blk,off+t,none⟩=false)->
      Calls P f0 #[.slice (some ⟨blk,off,none⟩) len cap,.int .i64 i,.int .i64 ((i:Int)+1)] w λe w'=>e=.returned (.slice (some ⟨blk,off,none⟩) (len - 1) cap)/\∃q,w'=((w.drewN q).setCells blk (off+i*z) news).setCells blk (off+(len - 1)*z) zv):(ED f0 z).Sound P:=λf xs o e=>by
  unfold ED at e;split at e
  · rename_i hf
    subst hf
    split at e
    · rename_i z' rows i j
      split at e
      · rename_i hh
        obtain⟨rfl,hi0,n8,rfl,hcl⟩:=hh
        cases e
        intro w zl zb cs hx hA iT
        obtain⟨c0,r1,rfl,h1,h2⟩:=map_cons hx
        obtain⟨c1,r2,rfl,h3,h4⟩:=map_cons h2
        obtain⟨c2,r3,rfl,h5,h6⟩:=map_cons h4
        obtain rfl:=map_nil h6
        obtain rfl:=nW h3
        obtain rfl:=nW h5
        obtain⟨A,len,cap,e,rfl,hlen,hrow⟩:=uZ h1
        obtain⟨n,rfl⟩:∃n:Nat,i=n:=⟨i.toNat,by omega⟩
        simp only[qI] at n8⊢
        have hn:n<len:=by omega
        have hok:=hA.ok _ (bE ..)
        have adp:=hok
        obtain⟨r1,r2,r3,r4,r5⟩:=adp
        obtain⟨g,o,rfl,amY,_⟩:=r2 n 0 hn h0
        have hcell:∀i j,i<len->j<z'->w.cell? ⟨g,o+i*z'+j,none⟩=some (e i j).val:=λi j hi hj=>by obtain⟨g',o',q1,q2,_⟩:=r2 i j hi hj;cases q1;exact q2
        have Kn:∀k,k<cap*z'->w.frozen? ⟨g,o+k,none⟩=false:=λk hk=>by
          rcases r4 rfl with ⟨h,_⟩|⟨g',o',arr,t,fz,q1,q2,q3,q4⟩;· cases h
          · cases q1
            exact q4 _ (by omega) (by omega)
        let nw:Nat->Value:=λt=>(e (n+1+t / z') (t%z')).val
        let news:List Value:=(List.range ((len - (n+1))*z')).map nw
        have hnl:news.length=(len - (n+1))*z':=by simp[news]
        have KA:∀t,t<(len - (n+1))*z'->news[t]?=some (nw t):=λt ht=>by simp[news,ht]
        have hidx:∀t,t<(len - (n+1))*z'->n+1+t / z'<len/\t%z'<z':=λt ht=>by have:=Ij (lC _ z'▸ht);exact⟨by omega,oY _ h0⟩
        have hmul:∀a b,(a+b)*z'=a*z'+b*z':=λa b=>fD a b z'
        refine(hc g o cap len n news w hn r1 hnl (λt u hu=>?_) (λu hu=>?_) (λt ht=>?_)).mono ?_
        · have ht:t<(len - (n+1))*z':=by have:=(aQ.1 hu).1;omega
          rw[KA t ht] at hu
          cases hu
          obtain⟨q1,q2⟩:=hidx t ht
          have:=hcell _ _ q1 q2
          rw[hmul (n+1) (t / z')] at this
          have hd:=JG (t:=t) h0
          rw[<-this]
          congr 2
          omega
        · obtain⟨t,ht,rfl⟩:=nO hu
          have ht':t<(len - (n+1))*z':=by rw[<-hnl];exact ht
          obtain⟨q1,q2⟩:=hidx t ht'
          have e1:news[t]=nw t:=by have:=KA t ht';rw[cr ht] at this;exact iC this
          rw[e1]
          exact Inv.qV (r3 _ _ q1 q2).1
        · have q1:=Ij (lC _ z'▸ht)
          have q2:=oY t h0
          have hd:=JG (t:=t) h0
          refine⟨?_,Kn t (jd ht (kC _ r1))⟩
          have:=hcell _ _ q1 q2
          rw[show o+t / z'*z'+t%z'=o+t by omega] at this
          rw[this]
          rfl
        · rintro en w' ⟨rfl,q,rfl⟩
          obtain⟨W1,mX⟩:∃W1,W1=(w.drewN q).setCells g (o+n*z') news:=⟨_,rfl⟩
          rw[<-mX]
          have ck:∀p,(w.drewN q).cell? p=w.cell? p:=λp=>rfl
          have AW:Ext (GJ (some (g,o,none))) w W1:=by rw[mX];exact(⟨rfl,rfl,rfl,dc _,λ_ _=>.inl rfl⟩:Ext (GJ (some (g,o,none))) w (w.drewN q)).trans ((Ext.setCells g news (o+n*z') _).mono λb k hh _=>⟨o,by rw[hh.1]⟩) λ_ _ h _=>h
          have rz:Ext (GJ (some (g,o,none))) w (W1.setCells g (o+(len - 1)*z') zv):=AW.trans ((Ext.setCells g zv (o+(len - 1)*z') _).mono λb k hh _=>⟨o,by rw[hh.1]⟩) λ_ _ h _=>h
          let σ:Nat->Nat:=λk=>if k<n then k else k+1
          have hσ:∀k,k<len - 1->σ k<len:=λk hk=>by simp only[σ];split<;>omega
          have hσi:∀k k',k≠k'->σ k≠σ k':=λk k' h=>by simp only[σ];split<;>split<;>omega
          have hcells:∀i j,i<len - 1->j<z'->(W1.setCells g (o+(len - 1)*z') zv).cell? ⟨g,o+i*z'+j,none⟩=some (e (σ i) j).val:=λi j hi hj=>by
            have hle:(i+1)*z'<=(len - 1)*z':=kC _ (by omega);rw[hmul i 1,wM] at hle;rw[World.cell?_setCells_out _ _ _ _ _ (λ_ _=>by left;simp only;omega),mX];by_cases hk:i<n
            · have hle2:(i+1)*z'<=n*z':=kC _ (by omega)
              rw[hmul i 1,wM] at hle2
              rw[World.cell?_setCells_out _ _ _ _ _ (λ_ _=>by left;simp only;omega),ck,hcell i j (by omega) hj]
              simp only[σ,aq hk]
            · have hsome:∀t,t<news.length->((w.drewN q).cell? ⟨g,o+n*z'+t,none⟩).isSome=true:=λt ht=>by
                rw[hnl] at ht;have q1:=(hidx t ht).1;have hd:=JG (t:=t) h0;have:=hcell (n+t / z') (t%z') (by omega) (oY _ h0);rw[hmul n (t / z')] at this;rw[ck,show o+n*z'+t=o+(n*z'+t / z'*z')+t%z' by omega,this]
                rfl
              have hge:(i - n)*z'+n*z'=i*z':=by rw[<-hmul];congr 1;omega
              have hlt:(i - n)*z'+j<(len - (n+1))*z':=by have:(i - n+1)*z'<=(len - (n+1))*z':=kC _ (by omega);rw[hmul (i - n) 1,wM] at this;omega
              have hin:=World.cell?_setCells_in g news (o+n*z') (w.drewN q) hsome ((i - n)*z'+j) (by rw[hnl];exact hlt)
              have e1:news[(i - n)*z'+j]'(by rw[hnl];exact hlt)=nw ((i - n)*z'+j):=by have:=KA _ hlt;rw[cr (by rw[hnl];exact hlt)] at this;exact iC this
              rw[e1] at hin
              rw[show o+i*z'+j=o+n*z'+((i - n)*z'+j) by omega,hin]
              have e2:((i - n)*z'+j) / z'=i - n:=by rw[lC,NV h0,NR hj,nJ]
              have e3:((i - n)*z'+j)%z'=j:=by rw[lC,Nat.mul_add_mod,NU hj]
              simp only[nw,e2,e3,σ,ay hk]
              congr 3
              omega
          generalize W1.setCells g (o+(len - 1)*z') zv=w2 at rz hcells
          have RE:∀b k,(C.row .own z' (some (g,o,none)) (len - 1) cap λi j=>e (σ i) j).fp b k->(C.row .own z' (some (g,o,none)) len cap e).fp b k:=λb k hf=>by
            obtain⟨_,hf⟩:=hf;rcases hf with hf|⟨i,j,hi,hj,hf⟩;· exact⟨rfl,.inl hf⟩
            · exact⟨rfl,.inr ⟨σ i,j,hσ i hi,hj,hf⟩⟩
          have Rx:(C.row .own z' (some (g,o,none)) len cap e).er.clean=true:=by rw[h1];simp[X.clean,hcl]
          have pP:∀b k,(C.row .own z' (some (g,o,none)) len cap e).fp b k->¬zl b k:=λb k hf=>(hA.fz _ (bE ..) b k hf).1
          have adF:(C.row .own z' (some (g,o,none)) (len - 1) cap λi j=>e (σ i) j).ok w2 (Zf zl λ_ _=>False):=by
            have adq:=C.qX _ Rx hok;obtain⟨s1,s2,s3,s4,s5⟩:=adq;refine agN ⟨s1,s2,s3,s4,s5⟩ rz (by omega) (λi j hi hj=>⟨g,o,rfl,hcells i j hi hj⟩) (λi j hi hj=>?_) (λi j hi hj b k hf=>?_)
            · obtain⟨a1,a2,a3,a4⟩:=s3 (σ i) j (hσ i hi) hj
              refine⟨a1,a2,C.fu rz (λm b k hz hs=>?_) _ (λb k hf hs=>?_) a4⟩
              · obtain⟨o',ho'⟩:=hs
                cases ho'
                have hnz:=pP g k ⟨rfl,.inl ⟨_,rfl⟩⟩
                cases m<;>simp[Zf] at hz<;>exact hnz hz
              · obtain⟨o',ho'⟩:=hs
                exact(s5 (σ i) j (hσ i hi) hj b k hf).1 rfl o' ho'
            · obtain⟨a1,a2⟩:=s5 (σ i) j (hσ i hi) hj b k hf
              refine⟨a1 rfl,λi' j' hi' hj' hne=>a2 (σ i') j' (hσ i' hi') hj' λheq=>hne ?_⟩
              have e1:σ i=σ i':=dB Prod.fst heq
              have e2:j=j':=dB Prod.snd heq
              have:i=i':=by
                by_cases q:i=i';· exact q
                · exact absurd e1 (hσi i i' q)
              rw[this,e2]
          refine⟨C.row .own z' (some (g,o,none)) (len - 1) cap λi j=>e (σ i) j,[.dead (C.row .own z' (some (g,o,none)) len cap e).val,.dead (Value.int .i64 n),.dead (Value.int .i64 ((n:Int)+1))],zl,⟨rfl,rfl,?_,⟨λx hx'=>?_,λx hx'=>?_,λx hx' b k hf=>?_,λb k hz=>?_,?_⟩,λx hx' b k hf=>?_,λ_ _ h=>h,λ_ _ h=>.inl h⟩,?_,rfl⟩
          · exact rz.mono λb k hh _=>⟨_,bE ..,⟨rfl,.inl hh⟩⟩
          · simp only[bM,mD,mI] at hx'
            rcases hx' with rfl|rfl|rfl|rfl
            · exact adF
            · trivial
            · trivial
            · trivial
          · simp only[bM,mD,mI] at hx'
            rcases hx' with rfl|rfl|rfl|rfl<;>trivial
          · simp only[bM,mD,mI] at hx'
            rcases hx' with rfl|rfl|rfl|rfl
            · exact⟨pP b k (RE b k hf),λh=>h⟩
            · exact hf.elim
            · exact hf.elim
            · exact hf.elim
          · rcases hz with hz|hz
            · exact jd (hA.cC b k (.inl hz)) rz.size
            · exact hz.elim
          · refine ew.2 ⟨λx hx' b k hf hf'=>?_,?_⟩
            · simp only[bM,mD,mI] at hx'
              rcases hx' with rfl|rfl|rfl<;>exact hf'
            · refine ew.2 ⟨λx hx' b k hf _=>hf,ew.2 ⟨λx hx' b k hf _=>hf,NM ..⟩⟩
          · simp only[bM,mD,mI] at hx'
            rcases hx' with rfl|rfl|rfl|rfl
            · exact .inl ⟨_,bE ..,RE b k hf⟩
            · exact hf.elim
            · exact hf.elim
            · exact hf.elim
          · show X.row .own z' _=X.row .own z' _
            congr 1
            apply iE
            intro t
            rw[List.getElem?_eraseIdx]
            by_cases ht:t<len - 1
            · rw[cV,qL ht]
              simp only[cG,σ]
              by_cases hk:t<n
              · rw[aq hk,aq hk,hrow t (by omega)]
              · rw[ay hk,ay hk,hrow (t+1) (by omega)]
            · rw[jD (by simp;omega)]
              split
              · omega
              · rw[jD (by omega)]
      · cases e
    · cases e
  · cases e
end M
set_option linter.unusedVariables false
set_option linter.unusedSimpArgs false
namespace M
open Go Go.RowKit Go.Sort
def LH:List (List X)->Option (List Int)
  |[]=>some []
  |[.int .i64 n]::l=>(LH l).map λr=>n::r
  |_::_=>none
def ahq(zs:List Int):List Int:=zs.mergeSort λx y=>decide (x<=y)
def ahp(f0:Nat):ct:=λf xs=>if f=f0 then (match xs with
  |[.row .own 1 rows]=>(match LH rows with
    |some zs=>if zs.length<=1073741824 then some (.ak [],[.row .own 1 ((ahq zs).map λn=>[.int .i64 n])]) else none
    |none=>none)
  |_=>none) else none
def YT(f0:Nat):ct:=λf xs=>if f=f0 then (match xs with
  |[.row .own 1 rows]=>(match LH rows with
    |some zs=>if zs.length<=1073741824 then some (.row .own 1 ((Lib.compact zs).map λn=>[.int .i64 n]),[.dead]) else none
    |none=>none)
  |_=>none) else none
end M
