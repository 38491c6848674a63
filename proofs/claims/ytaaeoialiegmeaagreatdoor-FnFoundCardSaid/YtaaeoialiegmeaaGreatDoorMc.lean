/- A machine of values for loaded Go functions, sound for the calculus of calls; part 3; no conditions. -/
import Derived.Test.YtaaeoialiegmeaaGreatDoorMb
import Derived.Sort.Grow
import Derived.Deep.Draws
import Derived.Lib.LaidTab
import Derived.MakeChecks
import Derived.Laws.BitsLemmas
import Derived.ChangeArms
import Derived.ChangeReads
import Derived.ChangeOld
import Derived.ChangeShapes
import Derived.SizedLaws
import Derived.RowKit
import Derived.Below
import Derived.Lib.ItoaNum
import Derived.Lib.TrimByte
import Derived.Lib.AtoiAllCases
import Derived.Lib.SplitLaws
import Derived.Lib.Join
import Derived.Lib.IndexMore
import Derived.HandedShaped
import Derived.Lib.Strings
import Derived.Lib.Slices
import Derived.Lib.Walk
import Derived.Stop.LaidErr
import Derived.RangeFuncNested
import Derived.RangeFuncCalls
import Derived.OrdersHeld
import Derived.OrdersIn
set_option linter.defProp false
set_option linter.unusedSectionVars false
set_option linter.unusedVariables false
set_option linter.unusedSimpArgs false
set_option linter.unusedVariables false
set_option linter.unusedSimpArgs false
namespace M
open Go
section
variable {C C':cy}{ok:FuncId->Bool}
def aej{C:cy}{d:Option Nat}{s s':ah}{f:FuncId}{xs:List X}(h:ql d s (C f xs)=some s'):∃o,C f xs=some o/\∀C':cy,C' f xs=some o->ql d s (C' f xs)=some s':=by
  cases ho:C f xs with
  |none=>rw[ho] at h;cases h
  |some o=>rw[ho] at h;exact⟨o,rfl,λC' h'=>by rw[h'];exact h⟩
def aei{C:cy}{d:Option Nat}{as:List (AV×PM)}{back:yC}{s':ah}{f:FuncId}{xs:List X}(h:Bi d as back (C f xs)=some s'):∃o,C f xs=some o/\∀C':cy,C' f xs=some o->Bi d as back (C' f xs)=some s':=by
  cases ho:C f xs with
  |none=>rw[ho] at h;cases h
  |some o=>rw[ho] at h;exact⟨o,rfl,λC' h'=>by rw[h'];exact h⟩
def N8{f:FuncId}{d:Option Nat}{as:List (AV×PM)}{fv:Option AV}{s s':ah}(h:qX C f d as fv s=some s'):
    ∃xs o,C f xs=some o/\∀C':cy,C' f xs=some o->qX C' f d as fv s=some s':=by
  unfold qX at h⊢;by_cases hb:X.bare.iY (bW as s).1=true
  · simp only[az hb] at h⊢
    cases hm:dS as with
    |none=>
      simp only[hm] at h⊢
      by_cases hc:vz (bW as s).2 fv f=true
      · simp only[az hc] at h⊢
        obtain⟨o,h1,h2⟩:=aej h
        exact⟨_,o,h1,h2⟩
      · simp only[aC hc] at h;cases h
    |some xn=>
      obtain⟨x,n⟩:=xn
      simp only[hm] at h⊢
      unfold Dk at h⊢
      split at h
      · split at h
        · rename_i y back h1 h2
          simp only[h1,az h2]
          obtain⟨o,h1,h2⟩:=aei h
          exact⟨_,o,h1,h2⟩
        · cases h
      · cases h
  · simp only[aC hb] at h;cases h
def OT{o:cA}{s s':ah}(h:cM C ok o s=some s'):(∀C':cy,cM C' ok o s=some s')\/∃f xs r,C f xs=some r/\∀C':cy,C' f xs=some r->cM C' ok o s=some s':=by
  cases o with
  |call d f as=>obtain⟨xs,o,h1,h2⟩:=N8 (C:=C) h;exact .inr ⟨f,xs,o,h1,h2⟩
  |nV d x as=>
    simp only[cM] at h⊢;split at h
    · rename_i f caps hf
      split at h
      · rename_i hok
        obtain⟨xs,o,h1,h2⟩:=N8 (C:=C) h
        refine .inr ⟨f,xs,o,h1,λC' h'=>?_⟩
        simp only[az hok]
        exact h2 C' h'
      · cases h
    · cases h
  |qW d f x as=>
    simp only[cM] at h⊢;split at h
    · rename_i cs h1
      split at h
      · rename_i h2
        simp only[az h2]
        refine .inr ?_
        cases ho:C f (.agg (bY cs s).1::gm (bY cs s).2 .dead as (as.map λ_=>.dead)) with
        |none=>rw[ho] at h;cases h
        |some r=>rw[ho] at h;exact⟨f,_,r,ho,λC' h'=>by rw[h'];exact h⟩
      · cases h
    · cases h
  |_=>exact .inl λ_=>h
def OP{g:G}{s s':ah}(h:eG C ok g s=some s'):(∀C':cy,eG C' ok g s=some s')\/∃f xs r,C f xs=some r/\∀C':cy,C' f xs=some r->eG C' ok g s=some s':=by
  obtain⟨gg,o⟩:=g;cases gg with
  |none=>exact OT h
  |some tb=>
    obtain⟨t,b⟩:=tb;simp only[eG] at h⊢;split at h
    · rename_i v hv
      split at h
      · rename_i h1
        simp only[hv,az h1]
        exact OT h
      · rename_i h1
        simp only[hv,aC h1]
        exact .inl λ_=>h
    · exact .inl λ_=>h
    · cases h
def cy.le(C C':cy):Prop:=∀f xs o,C f xs=some o->C' f xs=some o
def OR(hl:C.le C'){g:G}{s s':ah}(h:eG C ok g s=some s'):eG C' ok g s=some s':=by
  rcases OP h with h|⟨f,xs,r,h1,h2⟩;· exact h _
  · exact h2 _ (hl _ _ _ h1)
def IK(hl:C.le C'):∀{l:List G} {s s':ah},jV C ok l s=some s'->jV C' ok l s=some s'
  |[],_,_,h=>h
  |g::l,s,s',h=>by
    simp only[jV] at h⊢;cases h1:eG C ok g s with
    |none=>rw[h1] at h;cases h
    |some s1=>rw[h1] at h;rw[OR hl h1];exact IK hl h
def vE(hl:C.le C'):∀{t:DT} {s s':ah},eD C ok t s=some s'->eD C' ok t s=some s'
  |.nil _,_,_,h=>h
  |.step _ g l,s,s',h=>by
    simp only[eD] at h⊢;cases h1:eG C ok g s with
    |none=>rw[h1] at h;cases h
    |some s1=>rw[h1] at h;rw[OR hl h1];exact vE hl h
  |.alt a b,s,s',h=>by
    simp only[eD] at h⊢;unfold same at h;split at h
    · rename_i x y hx hy
      rw[vE hl hx,vE hl hy]
      exact h
    · cases h
  |.kp _ t,s,s',h=>vE (t:=t) hl h
def G4{k k':ah->cB}{r r':cB}{o:Ex×ah}(h:fu k r=some o)(hr:∀x,r=some x->r'=some x)(hk:∀s,k s=some o->k' s=some o):fu k' r'=some o:=by
  unfold fu at h;split at h;· rw[hr _ rfl];exact hk _ h
  · rw[hr _ rfl];exact h
  · rw[hr _ rfl];exact h
  · cases h
def wk{f f':ah->cB}(hf:∀s o,f s=some o->f' s=some o):∀{n m:Nat} {s:ah} {o:Ex×ah},n<=m->iter f n s=some o->iter f' m s=some o
  |0,_,_,_,_,h=>by cases h
  |n+1,0,_,_,hn,_=>by omega
  |n+1,m+1,s,o,hn,h=>G4 h (hf s) λs' h'=>wk hf (by omega) h'
end
noncomputable def aH(f:ah->cB)(s:ah):cB:=by classical exact if h:∃o:Ex×ah,∃n,iter f n s=some o then some (Classical.choose h) else none
def AO{f:ah->cB}{s:ah}{o:Ex×ah}{n:Nat}(h:iter f n s=some o):aH f s=some o:=by have hh:∃o:Ex×ah,∃n,iter f n s=some o:=⟨o,n,h⟩;unfold aH;rw[jM hh];obtain⟨m,hm⟩:=CM hh;have h1:=wk (λ_ _ h=>h) (Nat.le_max_left m n) hm;have h2:=wk (λ_ _ h=>h) (Nat.le_max_right m n) h;rw[h1] at h2;exact h2
def Kj{f:ah->cB}{s:ah}{o:Ex×ah}(h:aH f s=some o):∃n,iter f n s=some o:=by
  unfold aH at h;split at h
  · rename_i hh
    cases h
    exact CM hh
  · cases h
def KE{α:Type}{a b:Option α}(h1:∀x,a=some x->b=some x)(h2:∀x,b=some x->a=some x):a=b:=by
  cases a with
  |none=>cases b with
    |none=>rfl
    |some y=>exact h2 y rfl
  |some x=>exact(h1 x rfl).symm
def dH(f:ah->cB)(s:ah):aH f s=fu (aH f) (f s):=by
  refine KE (λo h=>?_) λo h=>?_
  · obtain⟨n,hn⟩:=Kj h
    cases n with
    |zero=>cases hn
    |succ n=>exact G4 hn (λ_ h=>h) λs' h'=>AO h'
  · unfold fu at h
    split at h
    · rename_i s' hs
      obtain⟨n,hn⟩:=Kj h
      refine AO (n:=n+1) ?_
      simp only[iter,hs,fu];exact hn
    · rename_i hs;refine AO (n:=1) ?_;simp only[iter,hs,fu];exact h
    · rename_i hs;refine AO (n:=1) ?_;simp only[iter,hs,fu];exact h
    · cases h
noncomputable def aj(C:cy)(ok:FuncId->Bool):A->ah->cB
  |.skip,s=>some (.normal,s)
  |.ret,s=>some (.ret,s)
  |.exit id,s=>some (.exit id,s)
  |.ops l,s=>iL (jV C ok l s)
  |.draw t,s=>iL (eD C ok t s)
  |.seq a b,s=>fu (aj C ok b) (aj C ok a s)
  |.cond c a b,s=>match au s c with
    |.bool t=>if t=true then aj C ok a s else aj C ok b s
    |_=>none
  |.block id b,s=>kW id (aj C ok b s)
  |.loop b,s=>aH (aj C ok b) s
  |.pk ks b,s=>lE ks (aj C ok b s)
def Fg{a b:Option ah}(h:∀s,a=some s->b=some s){o:Ex×ah}(ho:iL a=some o):iL b=some o:=by
  unfold iL at ho;split at ho;· rw[h _ rfl];exact ho
  · cases ho
def Nz{id:Nat}{a b:cB}(h:∀s,a=some s->b=some s){o:Ex×ah}(ho:kW id a=some o):kW id b=some o:=by
  cases a with
  |none=>cases ho
  |some x=>rw[h _ rfl];exact ho
def RP{ks:List Nat}{a b:cB}(h:∀s,a=some s->b=some s){o:Ex×ah}(ho:lE ks a=some o):lE ks b=some o:=by
  cases a with
  |none=>cases ho
  |some x=>rw[h _ rfl];exact ho
def Xm{C C':cy}{ok:FuncId->Bool}(hl:C.le C'){N:Nat}:∀{t:A} {s:ah} {o:Ex×ah},eA C ok N t s=some o->aj C' ok t s=some o:=by
  intro t;induction t with
  |skip=>intro s o h;exact h
  |ret=>intro s o h;exact h
  |exit id=>intro s o h;exact h
  |ops l=>intro s o h;exact Fg (λs' h'=>IK hl h') h
  |draw l=>intro s o h;exact Fg (λs' h'=>vE hl h') h
  |seq a b iI j7=>intro s o h;exact G4 h (λx hx=>iI hx) λs' h'=>j7 h'
  |cond c a b iI j7=>
    intro s o h;simp only[eA] at h;simp only[aj];split at h
    · rename_i t ht
      try rw[ht]
      cases t with
      |true=>exact iI h
      |false=>exact j7 h
    · cases h
  |block id b ih=>intro s o h;exact Nz (λx hx=>ih hx) h
  |loop b ih=>intro s o h;exact AO (wk (λs o h=>ih h) (dz _) h)
  |pk ks b ih=>intro s o h;exact RP (λx hx=>ih hx) h
def Xn{C C':cy}{ok:FuncId->Bool}(hl:C.le C'){N N':Nat}(hN:N<=N'):∀{t:A} {s:ah} {o:Ex×ah},eA C ok N t s=some o->eA C' ok N' t s=some o:=by
  intro t;induction t with
  |skip=>intro s o h;exact h
  |ret=>intro s o h;exact h
  |exit id=>intro s o h;exact h
  |ops l=>intro s o h;exact Fg (λs' h'=>IK hl h') h
  |draw l=>intro s o h;exact Fg (λs' h'=>vE hl h') h
  |seq a b iI j7=>intro s o h;exact G4 h (λx hx=>iI hx) λs' h'=>j7 h'
  |cond c a b iI j7=>
    intro s o h;simp only[eA] at h⊢;split at h
    · rename_i t ht
      cases t with
      |true=>exact iI h
      |false=>exact j7 h
    · cases h
  |block id b ih=>intro s o h;exact Nz (λx hx=>ih hx) h
  |loop b ih=>intro s o h;exact wk (λs o h=>ih h) hN h
  |pk ks b ih=>intro s o h;exact RP (λx hx=>ih hx) h
def DH{L:cy}{T:iB}:∀{n m:Nat},n<=m->(exec L T n).le (exec L T m)
  |0,_,_,_,_,_,h=>by cases h
  |n+1,0,hn,_,_,_,_=>by omega
  |n+1,m+1,hn,f,xs,o,h=>by
    have hnm:n<=m:=by omega
    simp only[exec] at h⊢;split at h
    · rename_i F hF
      unfold eF at h⊢
      split at h
      · rename_i hl
        rw[az hl]
        cases hr:eA (exec L T n) (av T) n F.body (mP xs) with
        |none=>rw[hr] at h;cases h
        |some r=>rw[hr] at h;rw[Xn (DH hnm) hnm hr];exact h
      · cases h
    · exact h
noncomputable def ev(L:cy)(T:iB):cy:=λf xs=>by classical exact if h:∃o:Out,∃n,exec L T n f xs=some o then some (Classical.choose h) else none
def IP{L:cy}{T:iB}{f:FuncId}{xs:List X}{o:Out}{n:Nat}(h:exec L T n f xs=some o):ev L T f xs=some o:=by have hh:∃o:Out,∃n,exec L T n f xs=some o:=⟨o,n,h⟩;unfold ev;rw[jM hh];obtain⟨m,hm⟩:=CM hh;have h1:=DH (Nat.le_max_left m n) f xs _ hm;have h2:=DH (Nat.le_max_right m n) f xs _ h;rw[h1] at h2;exact h2
def DE{L:cy}{T:iB}{f:FuncId}{xs:List X}{o:Out}(h:ev L T f xs=some o):∃n,exec L T n f xs=some o:=by
  unfold ev at h;split at h
  · rename_i hh
    cases h
    exact CM hh
  · cases h
def XB(L:cy)(T:iB)(n:Nat):(exec L T n).le (ev L T):=λ_ _ _ h=>IP h
def XA[Bs]{P:Program}{L:cy}{T:iB}(hL:L.Sound P)(hT:T.Ok P):(ev L T).Sound P:=λf xs o h=>by obtain⟨n,hn⟩:=DE h;exact O3 hL hT n f xs o hn
section
variable {L:cy}{T:iB}
def OQ{g:G}{s s':ah}(h:eG (ev L T) (av T) g s=some s'):∃n,∀m,n<=m->eG (exec L T m) (av T) g s=some s':=by
  rcases OP h with h|⟨f,xs,r,h1,h2⟩;· exact⟨0,λm _=>h _⟩
  · obtain⟨n,hn⟩:=DE h1
    exact⟨n,λm hm=>h2 _ (DH hm f xs r hn)⟩
def OV:∀{l:List G} {s s':ah},jV (ev L T) (av T) l s=some s'->∃n,∀m,n<=m->jV (exec L T m) (av T) l s=some s'
  |[],s,s',h=>⟨0,λm _=>h⟩
  |g::l,s,s',h=>by
    simp only[jV] at h⊢;cases h1:eG (ev L T) (av T) g s with
    |none=>rw[h1] at h;cases h
    |some s1=>rw[h1] at h;obtain⟨n1,jg⟩:=OQ h1;obtain⟨n2,hn2⟩:=OV (l:=l) h;exact⟨max n1 n2,λm hm=>by rw[jg m (by omega)];exact hn2 m (by omega)⟩
def zh:∀{l:DT} {s s':ah},eD (ev L T) (av T) l s=some s'->∃n,∀m,n<=m->eD (exec L T m) (av T) l s=some s'
  |.nil _,s,s',h=>⟨0,λm _=>h⟩
  |.step _ g l,s,s',h=>by
    simp only[eD] at h⊢;cases h1:eG (ev L T) (av T) g s with
    |none=>rw[h1] at h;cases h
    |some s1=>rw[h1] at h;obtain⟨n1,jg⟩:=OQ h1;obtain⟨n2,hn2⟩:=zh (l:=l) h;exact⟨max n1 n2,λm hm=>by rw[jg m (by omega)];exact hn2 m (by omega)⟩
  |.alt a b,s,s',h=>by
    simp only[eD] at h⊢;unfold same at h;split at h
    · rename_i x y hx hy
      obtain⟨n1,jg⟩:=zh hx
      obtain⟨n2,hn2⟩:=zh hy
      exact⟨max n1 n2,λm hm=>by rw[jg m (by omega),hn2 m (by omega)];exact h⟩
    · cases h
  |.kp _ t,s,s',h=>zh (l:=t) h
def Rv{a:Option ah}{b:Nat->Option ah}(h:∀s,a=some s->∃n,∀m,n<=m->b m=some s){o:Ex×ah}(ho:iL a=some o):∃n,∀m,n<=m->iL (b m)=some o:=by
  cases a with
  |none=>cases ho
  |some s=>obtain⟨n,hn⟩:=h s rfl;exact⟨n,λm hm=>by rw[hn m hm];exact ho⟩
def Xy:∀{t:A} {s:ah} {o:Ex×ah},aj (ev L T) (av T) t s=some o->∃n,∀m,n<=m->eA (exec L T m) (av T) m t s=some o:=by
  intro t;induction t with
  |skip=>intro s o h;exact⟨0,λm _=>h⟩
  |ret=>intro s o h;exact⟨0,λm _=>h⟩
  |exit id=>intro s o h;exact⟨0,λm _=>h⟩
  |ops l=>intro s o h;exact Rv (λs h=>OV h) h
  |draw l=>intro s o h;exact Rv (λs h=>zh h) h
  |seq a b iI j7=>
    intro s o h;simp only[aj] at h;simp only[eA];cases hr:aj (ev L T) (av T) a s with
    |none=>rw[hr] at h;cases h
    |some r=>
      rw[hr] at h;obtain⟨n1,jg⟩:=iI hr;obtain⟨e,s1⟩:=r;cases e with
      |normal=>obtain⟨n2,hn2⟩:=j7 (s:=s1) h;exact⟨max n1 n2,λm hm=>by rw[jg m (by omega)];exact hn2 m (by omega)⟩
      |exit i=>exact⟨n1,λm hm=>by rw[jg m hm];exact h⟩
      |ret=>exact⟨n1,λm hm=>by rw[jg m hm];exact h⟩
  |cond c a b iI j7=>
    intro s o h;simp only[aj] at h;simp only[eA];split at h
    · rename_i t ht
      try rw[ht]
      cases t with
      |true=>exact iI h
      |false=>exact j7 h
    · cases h
  |block id b ih=>
    intro s o h;simp only[aj] at h;simp only[eA];cases hr:aj (ev L T) (av T) b s with
    |none=>rw[hr] at h;cases h
    |some r=>rw[hr] at h;obtain⟨n1,jg⟩:=ih hr;exact⟨n1,λm hm=>by rw[jg m hm];exact h⟩
  |pk ks b ih=>
    intro s o h;simp only[aj] at h;simp only[eA];cases hr:aj (ev L T) (av T) b s with
    |none=>rw[hr] at h;cases h
    |some r=>rw[hr] at h;obtain⟨n1,jg⟩:=ih hr;exact⟨n1,λm hm=>by rw[jg m hm];exact h⟩
  |loop b ih=>
    intro s o h;simp only[aj] at h;obtain⟨n,hn⟩:=Kj h
    have go:∀(n:Nat) (s:ah),iter (aj (ev L T) (av T) b) n s=some o->∃k,∀m,k<=m->iter (eA (exec L T m) (av T) m b) n s=some o:=by
      intro n;induction n with
      |zero=>intro s h;cases h
      |succ n ihn=>
        intro s h;simp only[iter] at h⊢;cases hr:aj (ev L T) (av T) b s with
        |none=>rw[hr] at h;cases h
        |some r=>
          rw[hr] at h;obtain⟨n1,jg⟩:=ih hr;obtain⟨e,s1⟩:=r;cases e with
          |normal=>obtain⟨n2,hn2⟩:=ihn s1 h;exact⟨max n1 n2,λm hm=>by rw[jg m (by omega)];exact hn2 m (by omega)⟩
          |exit i=>exact⟨n1,λm hm=>by rw[jg m hm];exact h⟩
          |ret=>exact⟨n1,λm hm=>by rw[jg m hm];exact h⟩
    obtain⟨k,hk⟩:=go n s hn;refine⟨max k n,λm hm=>?_⟩;simp only[eA];exact wk (λ_ _ h=>h) (by omega) (hk m (by omega))
noncomputable def DC(L:cy)(T:iB)(F:Fn)(xs:List X):Option Out:=
  if xs.length=F.n then fin F (aj (ev L T) (av T) F.body (mP xs)) else none
def Xz{f:FuncId}{F:Fn}(hF:T f=some F)(xs:List X):ev L T f xs=DC L T F xs:=by
  refine KE (λo h=>?_) λo h=>?_
  · obtain⟨n,hn⟩:=DE h
    cases n with
    |zero=>cases hn
    |succ n=>
      simp only[exec,hF] at hn
      unfold eF at hn
      unfold DC
      split at hn
      · rename_i hl
        rw[az hl]
        cases hr:eA (exec L T n) (av T) n F.body (mP xs) with
        |none=>rw[hr] at hn;cases hn
        |some r=>rw[hr] at hn;rw[Xm (XB L T n) hr];exact hn
      · cases hn
  · unfold DC at h
    split at h
    · rename_i hl
      cases hr:aj (ev L T) (av T) F.body (mP xs) with
      |none=>rw[hr] at h;cases h
      |some r=>
        rw[hr] at h
        obtain⟨n,hn⟩:=Xy hr
        refine IP (n:=n+1) ?_
        simp only[exec,hF,eF,az hl,hn n (dz n)]
        exact h
    · cases h
def ry{f:FuncId}(hF:T f=none)(xs:List X):ev L T f xs=L f xs:=by
  refine KE (λo h=>?_) λo h=>?_
  · obtain⟨n,hn⟩:=DE h
    cases n with
    |zero=>cases hn
    |succ n=>simpa only[exec,hF] using hn
  · refine IP (n:=1) ?_
    simpa only[exec,hF] using h
end
end M
set_option linter.unusedVariables false
set_option linter.unusedSimpArgs false
namespace M
open Go
section
variable {C:cy}{ok:FuncId->Bool}{T:iB}
@[simp] def aj6(s:ah):aj C ok .skip s=some (.normal,s):=rfl
@[simp] def aj4(s:ah):aj C ok .ret s=some (.ret,s):=rfl
@[simp] def aj0(i:Nat)(s:ah):aj C ok (.exit i) s=some (.exit i,s):=rfl
@[simp] def aj2(l:List G)(s:ah):aj C ok (.ops l) s=iL (jV C ok l s):=rfl
@[simp] def ajZ(t:DT)(s:ah):aj C ok (.draw t) s=iL (eD C ok t s):=rfl
@[simp] def aj5(a b:A)(s:ah):aj C ok (.seq a b) s=fu (aj C ok b) (aj C ok a s):=rfl
@[simp] def ajX(i:Nat)(b:A)(s:ah):aj C ok (.block i b) s=kW i (aj C ok b s):=rfl
@[simp] def aj1(b:A)(s:ah):aj C ok (.loop b) s=aH (aj C ok b) s:=rfl
@[simp] def aj3(ks:List Nat)(b:A)(s:ah):aj C ok (.pk ks b) s=lE ks (aj C ok b s):=rfl
noncomputable def Oy(C:cy)(ok:FuncId->Bool)(a b:A)(s:ah):X->cB
  |.bool t=>if t=true then aj C ok a s else aj C ok b s
  |_=>none
@[simp] def ajY(c:AV)(a b:A)(s:ah):aj C ok (.cond c a b) s=Oy C ok a b s (au s c):=by simp only[aj];cases au s c<;>rfl
@[simp] def ajt(a b:A)(s:ah)(t:Bool):Oy C ok a b s (.bool t)=if t=true then aj C ok a s else aj C ok b s:=rfl
@[simp] def ajV(s:ah):jV C ok [] s=some s:=rfl
@[simp] def ajU(g:G)(l:List G)(s:ah):jV C ok (g::l) s=(eG C ok g s).bind (jV C ok l):=rfl
@[simp] def ajQ(ks:List Nat)(s:ah):eD C ok (.nil ks) s=some (keep ks s):=rfl
@[simp] def ajR(i:Nat)(g:G)(t:DT)(s:ah):eD C ok (.step i g t) s=(eG C ok g s).bind (eD C ok t):=rfl
@[simp] def ajO(a b:DT)(s:ah):eD C ok (.alt a b) s=same (eD C ok a s) (eD C ok b s):=rfl
@[simp] def ajP(ks:List Nat)(t:DT)(s:ah):eD C ok (.kp ks t) s=eD C ok t (keep ks s):=rfl
@[simp] def alP(s:ah):same (some s) (some s)=some s:=by
  have:rj s s=true:=by
    induction s with
    |nil=>rfl
    |cons a l ih=>obtain⟨k,x⟩:=a;simp[rj,X.O1,ih]
  simp[same,this]
@[simp] def aiL(c:Prop)[Decidable c](a b:Option ah)(f:ah->Option ah):(if c then a else b).bind f=if c then a.bind f else b.bind f:=by split<;>rfl
def D0(C:cy)(ok:FuncId->Bool)(o:cA)(t:Nat)(b:Bool)(s:ah):X->Option ah
  |.bool v=>if v=b then cM C ok o ((t,.bool b)::s) else some (fP o.dst (.ak []) ((t,.bool (!b))::s))
  |.ak []=>some (fP o.dst (.ak []) s)
  |_=>none
@[simp] def ajS(o:cA)(s:ah):eG C ok ⟨none,o⟩ s=cM C ok o s:=rfl
@[simp] def ajT(t:Nat)(b:Bool)(o:cA)(s:ah):eG C ok ⟨some (t,b),o⟩ s=D0 C ok o t b s (get s t):=by simp only[eG];split<;>simp_all[D0]
@[simp] def akk(o:cA)(t:Nat)(b v:Bool)(s:ah):D0 C ok o t b s (.bool v)=if v=b then cM C ok o ((t,.bool b)::s) else some (fP o.dst (.ak []) ((t,.bool (!b))::s)):=rfl
@[simp] def akl(o:cA)(t:Nat)(b:Bool)(s:ah):D0 C ok o t b s (.ak [])=some (fP o.dst (.ak []) s):=rfl
@[simp] def alx(s:ah):iL (some s)=some (.normal,s):=rfl
@[simp] def alw:iL none=none:=rfl
@[simp] def alv(c:Prop)[Decidable c](a b:Option ah):iL (if c then a else b)=if c then iL a else iL b:=by split<;>rfl
@[simp] def afr(k:ah->cB)(s:ah):fu k (some (.normal,s))=k s:=rfl
@[simp] def alR(k:ah->cB)(i:Nat)(s:ah):fu k (some (.exit i,s))=some (.exit i,s):=rfl
@[simp] def alU(k:ah->cB)(s:ah):fu k (some (.ret,s))=some (.ret,s):=rfl
@[simp] def alT(k:ah->cB):fu k none=none:=rfl
@[simp] def alS(k:ah->cB)(c:Prop)[Decidable c](a b:cB):fu k (if c then a else b)=if c then fu k a else fu k b:=by split<;>rfl
@[simp] def aiP(i:Nat)(s:ah):kW i (some (.normal,s))=some (.normal,s):=rfl
@[simp] def aiM(i j:Nat)(s:ah):kW i (some (.exit j,s))=if j=i then some (.normal,s) else some (.exit j,s):=rfl
@[simp] def aiQ(i:Nat)(s:ah):kW i (some (.ret,s))=some (.ret,s):=rfl
@[simp] def aiO(i:Nat):kW i none=none:=rfl
@[simp] def aiN(i:Nat)(c:Prop)[Decidable c](a b:cB):kW i (if c then a else b)=if c then kW i a else kW i b:=by split<;>rfl
@[simp] def alI(ks:List Nat)(s:ah):lE ks (some (.normal,s))=some (.normal,keep ks s):=rfl
@[simp] def alF(ks:List Nat)(i:Nat)(s:ah):lE ks (some (.exit i,s))=some (.exit i,s):=rfl
@[simp] def alJ(ks:List Nat)(s:ah):lE ks (some (.ret,s))=some (.ret,s):=rfl
@[simp] def alH(ks:List Nat):lE ks none=none:=rfl
@[simp] def alG(ks:List Nat)(c:Prop)[Decidable c](a b:cB):lE ks (if c then a else b)=if c then lE ks a else lE ks b:=by split<;>rfl
def tF(rs:List RV)(n:Nat):cB->Option Out
  |some (.exit _,_)=>none
  |some (_,s)=>if X.clean.cD (dW rs s).1=true/\(dW rs s).1.any X.l9=false then some (ug (dW rs s).1,qk 0 n (dW rs s).2) else none
  |none=>none
def IX(rs:List RV)(n:Nat)(s:ah):Option Out:=if X.clean.cD (dW rs s).1=true/\(dW rs s).1.any X.l9=false then some (ug (dW rs s).1,qk 0 n (dW rs s).2) else none
def ay{L:cy}{T:iB}{f:FuncId}{b:A}{rs:List RV}{n:Nat}(h:T f=some ⟨b,rs,n⟩){xs:List X}(hl:xs.length=n):ev L T f xs=tF rs n (aj (ev L T) (av T) b (mP xs)):=by rw[Xz h];unfold DC;rw[az hl];rfl
@[simp] def akj(rs:List RV)(n:Nat)(s:ah):tF rs n (some (.ret,s))=IX rs n s:=rfl
@[simp] def aki(rs:List RV)(n:Nat)(s:ah):tF rs n (some (.normal,s))=IX rs n s:=rfl
@[simp] def akh(rs:List RV)(n:Nat):tF rs n none=none:=rfl
@[simp] def akg(rs:List RV)(n:Nat)(c:Prop)[Decidable c](a b:cB):tF rs n (if c then a else b)=if c then tF rs n a else tF rs n b:=by split<;>rfl
@[simp] def alM(d:Option Nat)(s:ah)(r:X)(ps:List X):ql d s (some (r,ps))=some (fP d r s):=rfl
@[simp] def alL(d:Option Nat)(s:ah):ql d s none=none:=rfl
@[simp] def alK(d:Option Nat)(s:ah)(c:Prop)[Decidable c](a b:Option Out):ql d s (if c then a else b)=if c then ql d s a else ql d s b:=by split<;>rfl
end
attribute [simp] IX cM mP Cl Cm dW qk post ug X.l9 X.clean X.clean.cD X.clean.bh keep G9 Da qX vz
end M
set_option linter.unusedVariables false
set_option linter.unusedSimpArgs false
namespace M
open Go
def y9(z bytes:Nat):A:=(.seq (.pk [0] (.ops [⟨none,.aZ 2 .aX (.k (.row .own z []))⟩])) (.seq (.seq (.pk [0,4] (.ops [⟨none,.mv 3 (.t 0)⟩,⟨none,.rZ 4 false (.t 3)⟩])) (.pk [0] (.cond (.t 4) (.seq (.pk [2,7] (.ops [⟨none,.aZ 2 .aX (.k (.row .own z []))⟩])) .ret) .skip))) (.seq (.pk [2,7] (.ops [⟨none,.lit 5 .mv z []⟩,⟨none,.mv 6 (.t 0)⟩,⟨none,.app 7 .al z bytes (.t 5) (.t 6)⟩,⟨none,.aZ 2 .aX (.t 7)⟩])) .ret)))
def Oq:∀{rows:List (List X)},fQ rows=true->X.clean.bh rows=true
  |[],_=>rfl
  |e::l,h=>by
    simp only[fQ,aq,oV] at h
    have h1:X.clean.cD e=true:=by
      have h2:=h.1;clear h;induction e with
      |nil=>rfl
      |cons x e ih=>have hx:=h2 x (bE ..);have he:=ih λy hy=>h2 y (cz _ hy);cases x<;>simp_all[scalar,X.clean.cD,X.clean]
    simp only[X.clean.bh,h1,Oq h.2,Bool.and_self]
def W9[Bs]{P:Program}{f:FuncId}{z bytes:Nat}(hT:Told P f (y9 z bytes) [.t 2] 1){rows:List (List X)}(h1:rows.length*bytes<=140737488355328)(h2:fQ rows=true)(h4:mq rows=true\/rows=[]):
    AC P f [.row .af z rows] λr ps=>r=.row .own z rows/\ps=[.dead]:=by
  refine hT.ac rfl ?_;have h3:=LX h2;have h5:=Oq h2;simp[y9,eH,kr,o9,aL,base,Ends,h1,h3,h5];intro h6;rcases h4 with h4|h4;· rw[h4] at h6;cases h6
  · subst h4;simp
def mS(f0 z bytes:Nat):cy:=λf xs=>if f=f0 then (match xs with
  |[.row .af z' rows]=>if z'=z/\rows.length*bytes<=140737488355328/\fQ rows=true/\(mq rows=true\/rows=[]) then some (.row .own z rows,[.dead]) else none
  |_=>none) else none
def Ot[Bs]{P:Program}{f0 z bytes:Nat}(hT:Told P f0 (y9 z bytes) [.t 2] 1):(mS f0 z bytes).Sound P:=λf xs o h=>by
  unfold mS at h;split at h
  · rename_i hf
    subst hf
    split at h
    · split at h
      · rename_i hc
        obtain⟨rfl,c1,c2,c3⟩:=hc
        cases h
        exact W9 hT c1 c2 c3
      · cases h
    · cases h
  · cases h
def iM(L L':cy):cy:=λf xs=>match L f xs with
  |some o=>some o
  |none=>L' f xs
def uf[Bs]{P:Program}{L L':cy}(h:L.Sound P)(h':L'.Sound P):(iM L L').Sound P:=λf xs o e=>by
  unfold iM at e;split at e
  · rename_i o' e'
    cases e
    exact h f xs _ e'
  · exact h' f xs _ e
end M
set_option linter.unusedVariables false
set_option linter.unusedSimpArgs false
namespace M
open Go
def sv:X->Value
  |.int k n=>.int k n
  |.bool b=>.bool b
  |.str s=>.string s
  |_=>undef
def afj{c:C}(h:scalar c.er=true):c.val=sv c.er:=by cases c<;>first|rfl|(simp[C.er,scalar] at h)
def Co:X->Bool
  |.str s=>decide (s.size<=9223372036854775807)
  |x=>scalar x
def mh(f0:FuncId)(g:List X->Option X):cy:=λf xs=>if f=f0 then (match g xs with
  |some r=>if xs.all scalar=true/\Co r=true then some (r,xs.map λ_=>.dead) else none
  |none=>none) else none
end M
set_option linter.unusedVariables false
set_option linter.unusedSimpArgs false
namespace M
open Go Go.Sort
def s9[B:Bs](w:World):Prop:=∀b,b<B.W0.heap.size->w.heap[b]?=B.W0.heap[b]?
def Vh[Bs]{P:Program}{f:FuncId}{xs:List X}{r:X}(hx:∀x∈xs,scalar x=true)(hr:Co r=true)
    (h:∀w,s9 w->Calls P f (xs.map sv).toArray w λe w'=>e=.returned (sv r)/\∃k os,w'=grow (w.drewN k) os):AC P f xs λr' ps=>r'=r/\ps=xs.map λ_=>.dead:=by
  intro w zl zb cs e hA je;have hv:cs.map C.val=xs.map sv:=by rw[<-e,cK];exact cw λc hc=>afj (hx _ (e▸kj hc))
  rw[hv];refine(h w λb hb=>(je b hb).1).mono λe' w' ⟨he,k,os,hw⟩=>?_;subst hw;have hsz:w.heap.size<=(grow (w.drewN k) os).heap.size:=by simp[grow,World.drewN]
  have hs:∃c:C,c.er=r/\c.val=sv r/\c.ok (grow (w.drewN k) os) (Zf zl λ_ _=>False)/\c.bare/\∀b k,¬c.fp b k:=by
    cases r with
    |int k n=>exact⟨.int k n,rfl,rfl,trivial,trivial,λ_ _ h=>h⟩
    |bool b=>exact⟨.bool b,rfl,rfl,trivial,trivial,λ_ _ h=>h⟩
    |str s=>exact⟨.str s,rfl,rfl,by simp[Co] at hr;exact hr,trivial,λ_ _ h=>h⟩
    |_=>simp[Co,scalar] at hr
  obtain⟨c,c1,c2,c3,c4,c5⟩:=hs;have zP:Ext (λb k=>∃x∈cs,x.fp b k) w (grow (w.drewN k) os):=⟨rfl,rfl,rfl,hsz,λb hb=>.inl (by show (w.heap++os)[b]?=w.heap[b]?;exact TK hb)⟩
  refine⟨c,cs.map λx=>.dead x.val,zl,⟨by rw[he,c2],by rw[cK];rfl,zP,⟨λx hx'=>?_,λx hx'=>?_,λx hx' b k hf=>?_,λb k hz=>jJ (hA.cC b k (hz.imp id λh=>h.elim)) hsz,?_⟩,λx hx' b k hf=>?_,λ_ _ h=>h,λ_ _ h=>.inl h⟩,c1,?_⟩
  · rcases cu.1 hx' with rfl|hx'
    · exact c3
    · obtain⟨y,_,rfl⟩:=aU.1 hx';trivial
  · rcases cu.1 hx' with rfl|hx'
    · exact c4
    · obtain⟨y,_,rfl⟩:=aU.1 hx';trivial
  · rcases cu.1 hx' with rfl|hx'
    · exact(c5 b k hf).elim
    · obtain⟨y,_,rfl⟩:=aU.1 hx';exact hf.elim
  · refine eM.2 ⟨λx _ b k hf=>(c5 b k hf).elim,?_⟩
    refine nO.2 λi j hi hj _ b k hf=>?_
    obtain⟨y,_,hy⟩:=aU.1 (cI hi)
    rw[<-hy] at hf
    exact hf.elim
  · rcases cu.1 hx' with rfl|hx'
    · exact(c5 b k hf).elim
    · obtain⟨y,_,rfl⟩:=aU.1 hx';exact hf.elim
  · rw[<-e]
    simp[cK,HE,C.er]
def aam[Bs]{P:Program}{f0:FuncId}{g:List X->Option X}(h:∀xs r,g xs=some r->∀w,s9 w->Calls P f0 (xs.map sv).toArray w λe w'=>e=.returned (sv r)/\∃k os,w'=grow (w.drewN k) os):(mh f0 g).Sound P:=λf xs o e=>by
  unfold mh at e;split at e
  · rename_i hf
    subst hf
    split at e
    · rename_i r hr
      split at e
      · rename_i hc
        cases e
        exact Vh (oV.1 hc.1) hc.2 (h xs r hr)
      · cases e
    · cases e
  · cases e
def TabIs.same[B:Bs]{P:Program}{w:World}{n:String}{k:IntKind}{zs:List Int}(h:Lib.TabIs P B.W0 n k zs)(hw:s9 w):Lib.TabIs P w n k zs:=by
  unfold Lib.TabIs World.var? at h⊢;cases hg:P.globalNamed n with
  |none=>rw[hg] at h;cases h
  |some g=>
    rw[hg] at h;simp only[jK] at h⊢
    have hlt:g<B.W0.heap.size:=by
      rcases gW g B.W0.heap.size with h'|h';· exact h'
      · rw[lP h'] at h;cases h
    rw[hw g hlt];exact h
def afm{P:Program}{W:World}{name:String}{k:IntKind}{zs:List Int}{g:Nat}{t e:TypeId}{n:Nat}
    (hg:P.globalNamed name=some g)(hty:(P.globals[g]?).map (·.type)=some t)(ht:P.underlying t=some (.array n e))(he:P.underlying e=some (.int k))(hce:P.cellsOf e=1)(hct:P.cellsOf t=n):
    ∀{l:List (String×DataW Unit)} {ps:List MemPlace},DataW.LaidVars P W l ps->(name,Lib.tabData k zs)∈l->Lib.TabIs P W name k zs
  |[],_,_,h=>by cases h
  |(nm,d)::l,ps,h,hm=>by
    obtain⟨g',t',cs,fuel,p,q,hg',ht',hvar,hd,hr,_⟩:=h;rcases cu.1 hm with hm|hm
    · obtain⟨rfl,rfl⟩:=HA hm
      obtain rfl:=iz (hg.symm.trans hg')
      obtain rfl:=iz (hty.symm.trans ht')
      unfold Lib.TabIs
      rw[hvar,<-Lib.cells_of_tab ht he hce hct hd]
    · exact afm hg hty ht he hce hct hr hm
end M
set_option linter.unusedVariables false
set_option linter.unusedSimpArgs false
namespace M
open Go
def lv:Ex×ah->cB
  |(.normal,_)=>none
  |(.ret,s)=>some (.ret,s)
  |(.exit i,s)=>some (.exit i,s)
def oG{β γ:Type}(go:β->γ->γ ⊕ (Ex×ah)):List β->γ->γ ⊕ (Ex×ah)
  |[],g=>.inl g
  |b::l,g=>match go b g with
    |.inl g'=>oG go l g'
    |.inr o=>.inr o
def Kl{xt:Nat}{β γ:Type}{f:ah->cB}(l:List β)(st:Nat->γ->ah)(go:β->γ->γ ⊕ (Ex×ah))(E:γ->ah)(Inv:Nat->γ->Prop)(g:γ)(h0:Inv 0 g)
    (h:∀i b g,l[i]?=some b->i<l.length->Inv i g->f (st i g)=(match go b g with|.inl g'=>some (.normal,st (i+1) g')|.inr o=>lv o))
    (hI:∀i b g g',l[i]?=some b->Inv i g->go b g=.inl g'->Inv (i+1) g')
    (hend:∀g,Inv l.length g->f (st l.length g)=some (.exit xt,E g)):
    aH f (st 0 g)=match oG go l g with|.inl g'=>some (.exit xt,E g')|.inr o=>lv o:=by
  suffices H:∀(r:List β) (i:Nat) (g:γ),Inv i g->l.drop i=r->i<=l.length->aH f (st i g)=match oG go r g with|.inl g'=>some (.exit xt,E g')|.inr o=>lv o from H l 0 g h0 rfl (oT _)
  intro r;induction r with
  |nil=>
    intro i g hi hr hl;have:i=l.length:=by have:=dm List.length hr;simp at this;omega
    subst this;rw[dH,hend g hi];rfl
  |cons b r ih=>
    intro i g hi hr hl
    have hlt:i<l.length:=by
      rcases gW i l.length with h|h;· exact h
      · rw[MS h] at hr;cases hr
    have hb:l[i]?=some b:=by have:=qM hlt;rw[hr] at this;rw[bZ hlt];cases this;rfl
    have hr':l.drop (i+1)=r:=by have:=qM hlt;rw[hr] at this;cases this;rfl
    rw[dH,h i b g hb hlt hi];unfold oG;cases hg:go b g with
    |inl g'=>exact ih (i+1) g' (hI i b g g' hb hi hg) hr' hlt
    |inr o=>obtain⟨e,s⟩:=o;cases e<;>simp[fu,lv]
def bq{α:Type}(p:α->Bool)(l:List α):Bool:=l.all p
def eZ{α:Type}{p:α->Bool}{l:List α}:bq p l=true↔∀x∈l,p x=true:=oV
def gy{xt:Nat}{β:Type}{f:ah->cB}(l:List β)(st:Nat->ah)(p:β->Bool)(R E:ah)
    (h:∀i b,l[i]?=some b->i<l.length->f (st i)=if p b=true then some (.normal,st (i+1)) else some (.ret,R))
    (hend:f (st l.length)=some (.exit xt,E)):
    aH f (st 0)=if bq p l=true then some (.exit xt,E) else some (.ret,R):=by
  show _=if l.all p=true then _ else _
  have H:=Kl (f:=f) l (λi (_:Unit)=>st i) (λb _=>if p b=true then .inl () else .inr (.ret,R)) (λ_=>E) (λ_ _=>True) () trivial
    (λi b g hb hl _=>by rw[h i b hb hl];by_cases hp:p b=true<;>simp[hp,lv]) (λ_ _ _ _ _ _ _=>trivial) λ_ _=>hend
  refine H.trans ?_
  have:∀r:List β,oG (λb (_:Unit)=>if p b=true then .inl () else .inr (Ex.ret,R)) r ()=if r.all p=true then .inl () else .inr (.ret,R):=by
    intro r;induction r with
    |nil=>rfl
    |cons b r ih=>
      simp only[oG];by_cases hp:p b=true;· simp[hp,ih]
      · simp[hp]
  rw[this];by_cases hp:l.all p=true<;>simp[hp,lv]
def Kk{xt:Nat}{β γ:Type}{f:ah->cB}(l:List β)(st:Nat->γ->ah)(go:γ->β->γ)(E:γ->ah)(Inv:Nat->γ->Prop)(g:γ)(h0:Inv 0 g)
    (h:∀i b g,l[i]?=some b->i<l.length->Inv i g->f (st i g)=some (.normal,st (i+1) (go g b)))
    (hI:∀i b g,l[i]?=some b->Inv i g->Inv (i+1) (go g b))
    (hend:∀g,Inv l.length g->f (st l.length g)=some (.exit xt,E g)):
    aH f (st 0 g)=some (.exit xt,E (l.foldl go g)):=by
  refine(Kl (f:=f) l st (λb g=>.inl (go g b)) E Inv g h0 h (λi b g g' hb hi e=>by cases e;exact hI i b g hb hi) hend).trans ?_
  have:∀(r:List β) (g:γ),oG (λb g=>.inl (go g b)) r g=(.inl (r.foldl go g):γ ⊕ (Ex×ah)):=by
    intro r;induction r with
    |nil=>intro g;rfl
    |cons b r ih=>intro g;simp only[oG,oX];exact ih _
  rw[this]
def Ra{xt:Nat}{β:Type}{f:ah->cB}(l:List β)(st:Nat->ah)(E:ah)
    (h:∀i b,l[i]?=some b->i<l.length->f (st i)=some (.normal,st (i+1)))
    (hend:f (st l.length)=some (.exit xt,E)):aH f (st 0)=some (.exit xt,E):=
  Kk l (λi (_:Unit)=>st i) (λ_ _=>()) (λ_=>E) (λ_ _=>True) () trivial (λi b _ hb hl _=>h i b hb hl) (λ_ _ _ _ _=>trivial) λ_ _=>hend
def cJ{n:Int}(h1:-9223372036854775808<=n)(h2:n<=9223372036854775807):IntKind.i64.wrap n=n:=by simp only[IntKind.wrap,IntKind.signed,IntKind.bits,MO,bn];split<;>rename_i h<;>simp at h<;>omega
def bz(n:Nat)(h:n<9223372036854775807):IntKind.i64.wrap (↑n+1)=↑n+1:=cJ (by omega) (by omega)
attribute [simp] base GU gU look cX cP cV Dk Fe Bi kM iy
abbrev ag:=List UInt8
@[simp] def alQ(s:ag):ByteArray.size ⟨s.toArray⟩=s.length:=by simp[ByteArray.size]
@[simp] def str_inj(s t:ag):((⟨s.toArray⟩:ByteArray)=⟨t.toArray⟩)↔s=t:=by
  constructor
  · intro h
    injection h with h
    simpa using dm Array.toList h
  · rintro rfl;rfl
def kQ(s t:ag):(⟨s.toArray⟩:ByteArray)++⟨t.toArray⟩=⟨(s++t).toArray⟩:=by apply ByteArray.ext;rw[ByteArray.data_append];simp
@[simp] def eS(s:ag):List X:=[.str ⟨s.toArray⟩]
structure Wr where
  at_:Int
  text:ag
  deriving DecidableEq
structure bD where
  cells:List ag
  pending:List Wr
  deriving DecidableEq
@[simp] def eW(w:Wr):List X:=[.int .i64 w.at_,.str ⟨w.text.toArray⟩]
@[simp] def cL(m:Md)(d:bD):List X:=[.row m 1 (d.cells.map eS),.row m 2 (d.pending.map eW)]
@[simp] def alo(m:Md)(l:List ag):X.bQ m (l.map eS)=l.map eS:=by induction l<;>simp_all[X.bQ,X.ef,X.md]
@[simp] def als(m:Md)(l:List Wr):X.bQ m (l.map eW)=l.map eW:=by induction l<;>simp_all[X.bQ,X.ef,X.md]
@[simp] def W6(l:List ag):X.clean.bh (l.map eS)=true:=by induction l<;>simp_all[X.clean.bh,X.clean.cD,X.clean]
@[simp] def W7(l:List Wr):X.clean.bh (l.map eW)=true:=by induction l<;>simp_all[X.clean.bh,X.clean.cD,X.clean]
def acO{α β:Type}(l:List α)(e:α->β)(z:β)(g:β->β){i:Nat}(hi:i<l.length)(hg:g z=e l[i]):
    ((l.take i).map e++List.replicate (l.length - i) z).modify i g=(l.take (i+1)).map e++List.replicate (l.length - (i+1)) z:=by
  apply gX;intro j;rw[ve];rcases Nat.lt_trichotomy j i with h|h|h
  · rw[mL (by simp;omega),mL (by simp;omega)]
    simp only[cY,List.getElem?_take,az h,az (Nat.lt_succ_of_lt h),aC (Nat.ne_of_gt h)]
    cases l[j]?<;>rfl
  · subst h
    rw[iU (by simp;omega),mL (by simp;omega)]
    have:j - ((l.take j).map e).length=0:=by simp;omega
    rw[this,TO (by omega)]
    simp only[cY,List.getElem?_take,az (Nat.lt_succ_self j),bZ hi,dr,cv,<-hg]
    rfl
  · rw[iU (by simp;omega),iU (by simp;omega)]
    have h1:j - ((l.take i).map e).length=j - i:=by simp;omega
    have h2:j - ((l.take (i+1)).map e).length=j - (i+1):=by simp;omega
    rw[h1,h2,MZ,MZ]
    by_cases h3:j<l.length
    · rw[az (by omega),az (by omega)]
      simp only[Nat.ne_of_lt h,ey]
      rfl
    · rw[aC (by omega),aC (by omega)]
      rfl
def kZ(rows:List (List X))(i:Nat)(z:List X):List (List X):=rows.take i++List.replicate (rows.length - i) z
@[simp] def akd(rows:List (List X))(i:Nat)(z:List X):(kZ rows i z).length=rows.length:=by simp[kZ];omega
@[simp] def XM(rows:List (List X))(i:Nat)(z:List X)(h:i<rows.length):(kZ rows i z)[i]?=some z:=by unfold kZ;rw[iU (by simp;omega),TO (by simp;omega)]
@[simp] def akc(rows:List (List X))(i:Nat)(z:List X)(h:i<(kZ rows i z).length):(kZ rows i z)[i]=z:=by
  have h':i<rows.length:=by simpa using h
  have:=XM rows i z h';rw[bZ h] at this;exact iz this
@[simp] def akf(rows:List (List X))(z:List X):kZ rows 0 z=List.replicate rows.length z:=by simp[kZ]
@[simp] def akb(rows:List (List X))(i:Nat)(z:List X)(h:i=rows.length):kZ rows i z=rows:=by subst h;simp[kZ]
@[simp] def ake(rows:List (List X))(i:Nat)(z:List X)(g:List X->List X)(h:i<rows.length)(hg:g z=rows[i]):(kZ rows i z).modify i g=kZ rows (i+1) z:=by have:=acO rows id z g h (by simpa using hg);simpa [kZ] using this
def TW{α β:Type}:∀{a:List α} {b:List β},a.length=b.length->∃ps:List (α×β),a=ps.map Prod.fst/\b=ps.map Prod.snd
  |[],[],_=>⟨[],rfl,rfl⟩
  |x::a,y::b,h=>by obtain⟨ps,h1,h2⟩:=TW (a:=a) (b:=b) (by simpa using h);exact⟨(x,y)::ps,by simp[<-h1],by simp[<-h2]⟩
  |[],_::_,h=>by cases h
  |_::_,[],h=>by cases h
def vF{α:Type}[DecidableEq α](x:α×α):Bool:=decide (x.1=x.2)
def Np{α:Type}[DecidableEq α]:∀ps:List (α×α),bq vF ps=decide (ps.map Prod.fst=ps.map Prod.snd)
  |[]=>rfl
  |x::ps=>by have:=Np ps;unfold bq at this⊢;simp only[List.all_cons,this,vF,aY,mK];exact(Bool.decide_and ..).symm
def aco{xt:Nat}{β:Type}{f:ah->cB}(l:List β)(st:Int->ah)(p:β->Bool)(R:β->ah)(E:ah)
    (h:∀(i:Nat) b,l[i]?=some b->i<l.length->f (st i)=if p b=true then some (.ret,R b) else some (.normal,st (i - 1)))
    (hend:f (st (-1))=some (.exit xt,E)):
    aH f (st (l.length - 1))=(l.reverse.find? p).elim (some (.exit xt,E)) (λb=>some (.ret,R b)):=by
  suffices H:∀k,k<=l.length->aH f (st ((k:Int) - 1))=((l.take k).reverse.find? p).elim (some (.exit xt,E)) (λb=>some (.ret,R b)) by have:=H l.length (dz _);rwa [uY] at this
  intro k;induction k with
  |zero=>intro _;rw[dH];simp[hend]
  |succ k ih=>
    intro hk;have hb:l[k]?=some l[k]:=bZ hk;have e:((k+1:Nat):Int) - 1=(k:Int):=by omega
    rw[e,dH,h k _ hb hk,List.take_add_one,hb];simp only[Option.toList_some,Hv,MA,List.reverse_nil,kn,TD,List.find?_cons];by_cases hp:p l[k]=true;· simp[hp]
    · simp only[hp,fC,ey,afr]
      exact ih (by omega)
def dZ(d:bD)(a:Int):ag:=d.pending.foldl (λout w=>if w.at_=a then w.text else out) (d.cells.getD a.toNat [])
def Pz(a:Int):∀(l:List Wr) (x:ag),l.foldl (λout w=>if w.at_=a then w.text else out) x=(l.reverse.find? (λw=>decide (w.at_=a))).elim x Wr.text
  |[],x=>rfl
  |w::l,x=>by
    rw[oX,Pz a l,MA,List.find?_append];cases l.reverse.find? (λw=>decide (w.at_=a)) with
    |some v=>rfl
    |none=>by_cases h:w.at_=a<;>simp[h]
def n7(new old:List (List X))(i:Nat):List (List X):=new.take i++old.drop i
@[simp] def O9(new old:List (List X))(i:Nat)(h:new.length=old.length):(n7 new old i).length=old.length:=by simp[n7];omega
@[simp] def XL(new old:List (List X))(i:Nat)(h:new.length=old.length)(hi:i<old.length):(n7 new old i)[i]?=old[i]?:=by unfold n7;rw[iU (by simp;omega),oY];congr 1;simp;omega
@[simp] def aj9(new old:List (List X))(i:Nat)(hl:i<(n7 new old i).length)(h:new.length=old.length):(n7 new old i)[i]=old[i]'(by rw[O9 _ _ _ h] at hl;exact hl):=by
  have hi:i<old.length:=by rw[O9 _ _ _ h] at hl;exact hl
  have:=XL new old i h hi;rw[bZ hl,bZ hi] at this;exact iz this
@[simp] def aka(new old:List (List X)):n7 new old 0=old:=by simp[n7]
@[simp] def aj8(new old:List (List X))(i:Nat)(h:new.length=old.length)(hi:i=old.length):n7 new old i=new:=by subst hi;rw[<-h];simp[n7];omega
def qc(n:Nat)(out:ag):ag:=if h:n=0 then out else qc (n / 10) (UInt8.ofNat (48+n%10)::out)
termination_by n
decreasing_by omega
def AU(k:Int):ag:=if k<=0 then [109,48] else 109::qc k.toNat []
def AW(n:Nat)(k:Int):List ag:=(List.range n).map λ(i:Nat)=>AU (k+i)
def AX(n:Nat)(k:Int):List Wr:=(List.range n).map λ(i:Nat)=>⟨k+2*i,AU (k+2*i+1)⟩
@[simp] def ak9(n:Nat)(k:Int):(AW n k).length=n:=by simp[AW]
@[simp] def alb(n:Nat)(k:Int):(AX n k).length=n:=by simp[AX]
@[simp] def ak8(n:Nat)(k:Int)(i:Nat)(h:i<(AW n k).length):(AW n k)[i]=AU (k+i):=by simp[AW]
@[simp] def ala(n:Nat)(k:Int)(i:Nat)(h:i<(AX n k).length):(AX n k)[i]=⟨k+2*i,AU (k+2*i+1)⟩:=by simp[AX]
def foldI{β γ:Type}(go:Nat->γ->β->γ):Nat->List β->γ->γ
  |_,[],g=>g
  |i,b::l,g=>foldI go (i+1) l (go i g b)
def kK{xt:Nat}{β γ:Type}{f:ah->cB}(l:List β)(st:Nat->γ->ah)(go:Nat->γ->β->γ)(E:γ->ah)(Inv:Nat->γ->Prop)(g:γ)(h0:Inv 0 g)
    (h:∀i b g,l[i]?=some b->i<l.length->Inv i g->f (st i g)=some (.normal,st (i+1) (go i g b)))
    (hI:∀i b g,l[i]?=some b->Inv i g->Inv (i+1) (go i g b))
    (hend:∀g,Inv l.length g->f (st l.length g)=some (.exit xt,E g)):
    aH f (st 0 g)=some (.exit xt,E (foldI go 0 l g)):=by
  suffices H:∀(r:List β) (i:Nat) (g:γ),Inv i g->l.drop i=r->i<=l.length->aH f (st i g)=some (.exit xt,E (foldI go i r g)) from H l 0 g h0 rfl (oT _)
  intro r;induction r with
  |nil=>
    intro i g hi hr hl;have:i=l.length:=by have:=dm List.length hr;simp at this;omega
    subst this;rw[dH,hend g hi];rfl
  |cons b r ih=>
    intro i g hi hr hl
    have hlt:i<l.length:=by
      rcases gW i l.length with h|h;· exact h
      · rw[MS h] at hr;cases hr
    have hd:=qM hlt;rw[hr] at hd;have hb:l[i]?=some b:=by rw[bZ hlt];cases hd;rfl
    have hr':l.drop (i+1)=r:=by cases hd;rfl
    rw[dH,h i b g hb hlt hi];exact ih (i+1) _ (hI i b g hb hi) hr' hlt
def lD(k:Nat->Bool)(i:Nat)(cs:List ag)(w:Wr):List ag:=if k i=true then cs.set w.at_.toNat w.text else cs
def p6(k:Nat->Bool)(cs:List ag)(ws:List Wr):List ag:=foldI (lD k) 0 ws cs
def QW(k:Nat->Bool)(i:Nat)(cs:List ag)(w:Wr):(lD k i cs w).length=cs.length:=by unfold lD;split<;>simp
def Pw(k:Nat->Bool):∀(ws:List Wr) (i:Nat) (cs:List ag),(foldI (lD k) i ws cs).length=cs.length
  |[],_,_=>rfl
  |w::ws,i,cs=>by rw[foldI,Pw k ws,QW]
def QV(k:Nat->Bool)(cs:List ag)(ws:List Wr):(p6 k cs ws).length=cs.length:=Pw k ws 0 cs
@[simp] def alu(cs:List ag)(n:Nat)(t:ag):(cs.map eS).modify n (λx=>x.set 0 (X.str ⟨t.toArray⟩))=(cs.set n t).map eS:=by
  apply gX;intro j;rw[ve,cY,cY,vf];by_cases h:n=j
  · subst h
    simp only[dr]
    by_cases h2:n<cs.length
    · simp[h2]
    · simp[h2,kV (Nat.le_of_not_lt h2)]
  · simp only[h,ey]
    cases cs[j]?<;>rfl
def kJ(keep:List Bool)(all:Bool)(i:Nat):Bool:=all||keep.getD i false
@[simp] def eB(b:Bool):List X:=[.bool b]
@[simp] def alc(m:Md)(l:List Bool):X.bQ m (l.map eB)=l.map eB:=by induction l<;>simp_all[X.bQ,X.ef,X.md]
@[simp] def ai6(l:List Bool):X.clean.bh (l.map eB)=true:=by induction l<;>simp_all[X.clean.bh,X.clean.cD,X.clean]
def GH(l:List ag):fQ (l.map eS)=true:=by induction l<;>simp_all[fQ,scalar]
def Sw(l:List Wr):fQ (l.map eW)=true:=by induction l<;>simp_all[fQ,scalar]
attribute [simp] GH Sw
@[simp] def ai5(a b:List (List X)):X.clean.bh (a++b)=(X.clean.bh a && X.clean.bh b):=by
  induction a with
  |nil=>simp[X.clean.bh]
  |cons e a ih=>simp[X.clean.bh,ih,ME]
@[simp] def Ri(m:Md)(a b:List (List X)):X.bQ m (a++b)=X.bQ m a++X.bQ m b:=by
  induction a with
  |nil=>simp[X.bQ]
  |cons e a ih=>simp[X.bQ,ih]
structure bp where
  code:List UInt8
  i:Nat
  h:Int
  hi:i<=code.length
  hl:code.length<=9223372036854775807
@[simp] def eU(b:UInt8):List X:=[.int .u8 (b.toNat:Int)]
@[simp] def alr(m:Md)(l:List UInt8):X.bQ m (l.map eU)=l.map eU:=by induction l<;>simp_all[X.bQ,X.ef,X.md]
@[simp] def ajj(l:List UInt8):X.clean.bh (l.map eU)=true:=by induction l<;>simp_all[X.clean.bh,X.clean.cD,X.clean]
def aR(c:bp):List X:=[.row .sl 1 (c.code.map eU),.int .i64 c.i,.int .i64 c.h]
@[simp] def ajL(c:bp):(aR c).length=3:=rfl
@[simp] def ajN(c:bp):(aR c).take 3=aR c:=rfl
@[simp] def ajI(c:bp):(aR c).drop 3=[]:=rfl
@[simp] def ajM(ks:List Nat)(c:bp):X.nE ks (aR c)=aR c:=rfl
@[simp] def ajJ(r:Nat)(p:Path)(c:bp):X.gx r p (aR c)=aR c:=rfl
@[simp] def ajK(r:Nat)(p:Path)(c:bp):X.pZ r p (aR c)=aR c:=rfl
@[simp] def ajH(c:bp):X.clean.cD (aR c)=true:=by simp[aR,X.clean.cD,X.clean]
@[simp] def ajG(c:bp):X.bare.iY (aR c)=true:=by simp[aR,X.bare.iY,X.bare]
def Ns(n:Int):IntKind.i64.wrap (((n%2^IntKind.i64.bits).toNat &&& 255%2^IntKind.i64.bits:Nat):Int)=n%256:=by
  have e:255%2^IntKind.i64.bits=2^8 - 1:=by decide
  have e2:(2:Int)^IntKind.i64.bits=18446744073709551616:=by decide
  rw[e,Nat.and_two_pow_sub_one_eq_mod,IntKind.wrap_i64,e2];omega
def acp{xt:Nat}{γ:Type}{f:ah->cB}(n:Nat)(st:Nat->γ->ah)(Inv:Nat->γ->Prop)(E:γ->ah)(g:γ)(h0:Inv 0 g)
    (h:∀i g,i<n->Inv i g->∃g',f (st i g)=some (.normal,st (i+1) g')/\Inv (i+1) g')
    (hend:∀g,Inv n g->f (st n g)=some (.exit xt,E g)):∃g',Inv n g'/\aH f (st 0 g)=some (.exit xt,E g'):=by
  suffices H:∀k i g,i+k=n->Inv i g->∃g',Inv n g'/\aH f (st i g)=some (.exit xt,E g') from H n 0 g (by omega) h0
  intro k;induction k with
  |zero=>
    intro i g hi hI;obtain rfl:i=n:=by omega
    exact⟨g,hI,by rw[dH,hend g hI];rfl⟩
  |succ k ih=>intro i g hi hI;obtain⟨g1,e1,hI1⟩:=h i g (by omega) hI;obtain⟨g2,Jf,e2⟩:=ih (i+1) g1 (by omega) hI1;exact⟨g2,Jf,by rw[dH,e1];exact e2⟩
end M
set_option linter.unusedVariables false
set_option linter.unusedSimpArgs false
namespace M
open Go Go.RowKit
inductive Ty where
  |int (k:IntKind)
  |bool
  |str
  |row (ts:List Ty)
inductive iV:Ty->X->Prop
  |int {k n}:(Lit.int k n).wf=true->iV (.int k) (.int k n)
  |bool {b}:iV .bool (.bool b)
  |str {s:ByteArray}:s.size<=maxLen->iV .str (.str s)
  |row {ts xs}:xs.length<=maxLen->(∀r:List X,r∈xs->r.length=ts.length)->(∀(r:List X),r∈xs->∀(j:Nat) ty x,ts[j]?=some ty->r[j]?=some x->iV ty x)->iV (.row ts) (.row .sl ts.length xs)
structure CW (w:World) (ty:Ty) (c:C):Prop where
  cell:c.cell
  cQ:c.cQ
  fits:c.fits .sl
  ok:c.ok w (Zf (λb _=>b<w.heap.size) λ_ _=>False)
  fp:∀b k,¬c.fp b k
  za:iV ty c.er
def k8(w:World):List Ty->List Value->List C->Prop
  |[],[],[]=>True
  |ty::ts,v::vs,c::cs=>c.val=v/\CW w ty c/\k8 w ts vs cs
  |_,_,_=>False
def PS{w:World}:∀{ts:List Ty} {vs:List Value} {cs:List C} {ts':List Ty} {vs':List Value} {cs':List C},k8 w ts vs cs->k8 w ts' vs' cs'->k8 w (ts++ts') (vs++vs') (cs++cs')
  |[],[],[],_,_,_,_,h=>h
  |_::_,_::_,_::_,_,_,_,⟨h1,h2,h3⟩,h=>⟨h1,h2,PS h3 h⟩
def PT{w:World}:∀{ts:List Ty} {vs:List Value} {cs:List C},k8 w ts vs cs->vs.length=ts.length/\cs.length=ts.length/\vs=cs.map C.val
  |[],[],[],_=>⟨rfl,rfl,rfl⟩
  |_::_,_::_,_::_,⟨h1,h2,h3⟩=>by obtain⟨e1,e2,e3⟩:=PT h3;exact⟨by simp[e1],by simp[e2],by simp[h1,<-e3]⟩
def I8{w:World}:∀{ts:List Ty} {vs:List Value} {cs:List C},k8 w ts vs cs->∀{j:Nat},j<ts.length->∃ty c,ts[j]?=some ty/\cs[j]?=some c/\vs[j]?=some c.val/\CW w ty c
  |ty::ts,v::vs,c::cs,⟨h1,h2,h3⟩,0,_=>⟨ty,c,rfl,rfl,by simp[h1],h2⟩
  |ty::ts,v::vs,c::cs,⟨h1,h2,h3⟩,j+1,h=>by obtain⟨ty,c,a1,a2,a3,a4⟩:=I8 h3 (j:=j) (by simpa using h);exact⟨ty,c,by simpa using a1,by simpa using a2,by simpa using a3,a4⟩
def ya(P:Program)(r:TypeId->Option (List Ty)):Nat->List Field->Option (List Ty)
  |_,[]=>some []
  |o,f::fs=>if f.offset=o then (r f.type).bind λts=>if ts.length=P.cellsOf f.type then (ya P r (o+ts.length) fs).map (ts++·) else none else none
def jr(P:Program):Nat->Bool->TypeId->Option (List Ty)
  |0,_,_=>none
  |n+1,deep,t=>match P.underlying t with
    |some .bool=>some [.bool]
    |some (.int k)=>some [.int k]
    |some .string=>some [.str]
    |some (.slice e)=>if deep then (jr P n true e).bind λts=>if ts.length=P.cellsOf e/\0<P.cellsOf e then some [.row ts] else none else none
    |some (.struct fs)=>(ya P (jr P n deep) 0 fs.toList).bind λts=>if ts.length=P.cellsOf t then some ts else none
    |_=>none
section
variable {H:Type}{enc:TypeId×Value->H}{P:Program}{w:World}{sp:Nat->Bool}{held:Bool}
def S6{r:TypeId->Option (List Ty)}{cs:List Value}
    (hr:∀t ts fuel cs' x,r t=some ts->DataW.trod enc P w 0 sp held fuel t cs'=some x->(∀v∈cs',v∈cs)->∃Cs,k8 w ts cs' Cs):
    ∀(fs:List Field) (o:Nat) (ts:List Ty),ya P r o fs=some ts->(∀f∈fs,∃fuel x,DataW.trod enc P w 0 sp held fuel f.type ((cs.drop f.offset).take (P.cellsOf f.type))=some x)->
      ∃Cs,k8 w ts ((cs.drop o).take ts.length) Cs
  |[],o,ts,h,_=>by cases h;exact⟨[],by simp[k8]⟩
  |f::fs,o,ts,h,hx=>by
    simp only[ya] at h;split at h
    · rename_i ho
      simp only[kU] at h
      obtain⟨t1,h1,h⟩:=h
      split at h
      · rename_i hl
        simp only[mJ] at h
        obtain⟨t2,h2,rfl⟩:=h
        obtain⟨fuel,x,hf⟩:=hx f (bE ..)
        obtain⟨C1,g1⟩:=hr _ _ _ _ _ h1 hf λv hv=>List.mem_of_mem_drop (Mw hv)
        obtain⟨C2,g2⟩:=S6 hr fs _ _ h2 λf hf=>hx f (cz _ hf)
        refine⟨C1++C2,?_⟩
        rw[fE,List.take_add,CP]
        rw[ho,<-hl] at g1
        exact PS g1 g2
      · cases h
    · cases h
def afc{w:World}{g o n m:Nat}{spot:Option Nat}{vs:List Value}(hn:0<n)(h:w.cells? 0 ((⟨g,o,spot⟩:Addr).add (0*m)) n=some vs):spot=none:=by
  obtain⟨_,hl,e3⟩:=World.cells?_some h;have e4:=e3 0 hn;have:∃v,vs[0]?=some v:=⟨vs[0],bZ (by omega)⟩;obtain⟨v,hv⟩:=this;rw[hv] at e4;have ha:((⟨g,o,spot⟩:Addr).add (0*m)).add 0=⟨g,o,spot⟩:=by simp[Addr.add]
  rw[ha] at e4;unfold World.cell? at e4;cases spot with
  |none=>rfl
  |some k=>
    split at e4;· simp at e4
    · cases e4
def trod_good:∀(n:Nat) (deep:Bool) (t:TypeId) (ts:List Ty),jr P n deep t=some ts->∀(fuel:Nat) (cs:List Value) (x:DataW H×List MemPlace),DataW.trod enc P w 0 sp held fuel t cs=some x->∃Cs,k8 w ts cs Cs
  |0,_,_,_,h,_,_,_,_=>by cases h
  |n+1,deep,t,ts,h,fuel,cs,x,hx=>by
    simp only[jr] at h;split at h
    · rename_i hu
      cases h
      obtain⟨b,rfl,rfl⟩:=DataW.trod_bool hu hx
      exact⟨[.bool b],rfl,⟨trivial,trivial,trivial,trivial,λ_ _ h=>h,.bool⟩,trivial⟩
    · rename_i k hu
      cases h
      obtain⟨m,rfl,rfl,hw⟩:=DataW.trod_int hu hx
      exact⟨[.int k m],rfl,⟨trivial,trivial,trivial,trivial,λ_ _ h=>h,.int hw⟩,trivial⟩
    · rename_i hu
      cases h
      obtain⟨s,rfl,rfl,hw⟩:=DataW.trod_string hu hx
      exact⟨[.str s],rfl,⟨trivial,trivial,trivial,hw,λ_ _ h=>h,.str hw⟩,trivial⟩
    · rename_i e hu
      split at h
      · rename_i hd
        simp only[kU] at h
        obtain⟨te,h1,h⟩:=h
        split at h
        · rename_i hl
          obtain⟨hl,hpos⟩:=hl
          cases h
          rcases DataW.trod_slice hu hx with ⟨rfl,rfl⟩|⟨a,len,cap,elems,rest,m,rfl,rfl,rfl,_,hlc,hcm,hel,jc,_,_⟩
          · refine⟨[.row .sl te.length none 0 0 λ_ _=>.dead undef],rfl,⟨trivial,trivial,.inr (.inl rfl),⟨dz _,λi j hi=>by omega,λi j hi=>by omega,λh=>(by cases h),λi j hi=>by omega⟩,λb k h=>(by cases h.1),?_⟩,trivial⟩
            exact iV.row (xs:=[]) (by simp) (λr hr=>by cases hr) (λr hr=>by cases hr)
          · obtain⟨g,o,spot⟩:=a
            by_cases hl0:len=0
            · subst hl0
              refine⟨[.row .sl te.length (some (g,o,spot)) 0 cap λ_ _=>.dead undef],rfl,⟨trivial,trivial,.inr (.inl rfl),⟨hlc,λi j hi=>by omega,λi j hi=>by omega,λh=>(by cases h),λi j hi=>by omega⟩,λb k h=>(by cases h.1),?_⟩,trivial⟩
              exact iV.row (xs:=[]) (by simp) (λr hr=>by cases hr) (λr hr=>by cases hr)
            have abz:spot=none:=by have:=jc 0 (by omega);rw[bZ (by omega),kU] at this;obtain⟨vs,e1,e2⟩:=this;exact afc hpos e1
            subst abz
            have hex:∀i,∃(vs:List Value) (l:List C),i<len->w.cells? 0 ((⟨g,o,none⟩:Addr).add (i*P.cellsOf e)) (P.cellsOf e)=some vs/\k8 w te vs l:=λi=>by
              by_cases hi:i<len
              · have:=jc i hi
                rw[bZ (by omega),kU] at this
                obtain⟨vs,e1,e2⟩:=this
                obtain⟨l,hl⟩:=trod_good n true _ _ h1 _ _ _ e2
                exact⟨vs,l,λ_=>⟨e1,hl⟩⟩
              · exact⟨[],[],λh=>(hi h).elim⟩
            let vs:=λi=>(hex i).choose
            let l:=λi=>(hex i).choose_spec.choose
            have hvl:∀i,i<len->w.cells? 0 ((⟨g,o,none⟩:Addr).add (i*P.cellsOf e)) (P.cellsOf e)=some (vs i)/\k8 w te (vs i) (l i):=λi=>(hex i).choose_spec.choose_spec
            have hij:∀i j,i<len->j<te.length->∃ty,te[j]?=some ty/\(l i)[j]?=some ((l i).getD j (.dead undef))/\w.cell? ⟨g,o+i*te.length+j,none⟩=some ((l i).getD j (.dead undef)).val/\CW w ty ((l i).getD j (.dead undef)):=λi j hi hj=>by
              obtain⟨e1,e2⟩:=hvl i hi;obtain⟨ty,c,a1,a2,a3,a4⟩:=I8 e2 hj;have hc:(l i).getD j (.dead undef)=c:=by rw[jO,a2];rfl
              rw[hc];obtain⟨_,_,e3⟩:=World.cells?_some e1;have e4:=e3 j (by omega);rw[a3] at e4;refine⟨ty,a1,a2,?_,a4⟩;rw[<-e4];congr 1;rw[hl];unfold Addr.add;split<;>split<;>simp_all
            have hb:∀i j,i<len->j<te.length->g<w.heap.size:=λi j hi hj=>by obtain⟨_,_,_,h3,_⟩:=hij i j hi hj;exact World.block_lt_of_cell? w _ h3
            refine⟨[.row .sl te.length (some (g,o,none)) len cap λi j=>(l i).getD j (.dead undef)],rfl,⟨trivial,trivial,.inr (.inl rfl),⟨hlc,λi j hi hj=>⟨g,o,rfl,?_,λ_=>hb i j hi hj⟩,λi j hi hj=>?_,λh=>(by cases h),λi j hi hj b k hf=>?_⟩,λb k h=>(by cases h.1),?_⟩,trivial⟩
            · obtain⟨ty,_,_,h3,h4⟩:=hij i j hi hj
              exact h3
            · obtain⟨ty,_,_,h3,h4⟩:=hij i j hi hj
              exact⟨h4.cell,h4.cQ,h4.fits,h4.ok⟩
            · obtain⟨ty,_,_,h3,h4⟩:=hij i j hi hj
              exact(h4.fp b k hf).elim
            · refine iV.row (by simpa using iT hlc hcm) (λr hr=>?_) λr hr j ty x hty JI=>?_
              · simp only[aU,nN] at hr
                obtain⟨i,_,rfl⟩:=hr
                simp
              · simp only[aU,nN] at hr
                obtain⟨i,hi,rfl⟩:=hr
                have hj:j<te.length:=by
                  rcases gW j te.length with h|h;· exact h
                  · rw[kV h] at hty;cases hty
                obtain⟨ty',e1,_,_,h4⟩:=hij i j hi hj
                rw[e1] at hty
                cases hty
                rw[cY,qN hj] at JI
                simp only[cv,dF] at JI
                subst JI
                exact h4.za
        · cases h
      · cases h
    · rename_i fs hu
      simp only[kU] at h
      obtain⟨te,h1,h⟩:=h
      split at h
      · rename_i hl
        cases h
        obtain⟨xs,m,rfl,rfl,hcs,hxl,jc⟩:=DataW.trod_struct hu hx
        obtain⟨Cs,hC⟩:=S6 (cs:=cs) (λt ts' fuel cs' x hr ht hm=>trod_good n deep t ts' hr fuel cs' x ht) fs.toList 0 ts h1 λf hf=>by
          obtain⟨i,hi,rfl⟩:=nT hf;have hi':i<fs.size:=by simpa using hi
          have:=jc i (fs[i]) (by simp[hi']);rw[bZ (by omega)] at this;exact⟨_,_,by simpa using this⟩
        refine⟨Cs,?_⟩
        rw[HH,hl,<-hcs,uY] at hC
        exact hC
      · cases h
    · cases h
def Me:∀(n:Nat) (deep:Bool) (t:TypeId) (ts:List Ty),jr P n deep t=some ts->∀(fuel:Nat) (cs:List Value) (x:DataW H×List MemPlace),DataW.trod enc P w 0 (λ_=>true) held fuel t cs=some x->DataW.trod enc P w 0 (λb=>decide (b<w.heap.size)) held fuel t cs=some x
  |0,_,_,_,h,_,_,_,_=>by cases h
  |n+1,deep,t,ts,h,0,cs,x,hx=>by simp[DataW.trod] at hx
  |n+1,deep,t,ts,h,fuel+1,cs,x,hx=>by
    simp only[jr] at h;split at h
    · rename_i hu
      obtain⟨b,rfl,rfl⟩:=DataW.trod_bool hu hx
      simp[DataW.trod,hu]
    · rename_i k hu
      obtain⟨m,rfl,rfl,hw⟩:=DataW.trod_int hu hx
      simp[DataW.trod,hu,hw]
    · rename_i hu
      obtain⟨s,rfl,rfl,hw⟩:=DataW.trod_string hu hx
      simp[DataW.trod,hu,hw]
    · rename_i e hu
      split at h
      · simp only[kU] at h
        obtain⟨te,h1,h⟩:=h
        split at h
        · rename_i hl
          obtain⟨hl,hpos⟩:=hl
          rcases DataW.trod_slice hu hx with ⟨rfl,rfl⟩|⟨a,len,cap,elems',rest',m,_,rfl,_⟩
          · simp[DataW.trod,hu]
          · unfold DataW.trod at hx⊢
            simp only[hu] at hx⊢
            split at hx
            · rename_i hc
              rw[az hc]
              simp only[mJ,kU,dr] at hx⊢
              obtain⟨elems,he,rest,tM,rfl⟩:=hx
              have one:∀(i:Nat) (y:DataW H×List MemPlace),(w.cells? 0 (a.add (i*P.cellsOf e)) (P.cellsOf e)).bind (DataW.trod enc P w 0 (λ_=>true) held fuel e)=some y->(w.cells? 0 (a.add (i*P.cellsOf e)) (P.cellsOf e)).bind (DataW.trod enc P w 0 (λb=>decide (b<w.heap.size)) held fuel e)=some y:=λi y hv=>by simp only[kU] at hv⊢;obtain⟨cs',j0,hy'⟩:=hv;exact⟨cs',j0,Me n true _ _ h1 _ _ _ hy'⟩
              refine⟨elems,mapM_carry he λi y _ _ hv=>one i y hv,rest,?_,rfl⟩
              by_cases hb:a.block<w.heap.size
              · rw[az (by simpa using hb)]
                exact mapM_carry tM λi y _ _ hv=>one (len+i) y hv
              · rw[aC (by simpa using hb)]
                have:cap - len=0:=by
                  rcases Nat.eq_zero_or_pos (cap - len) with h|h;· exact h
                  · have h0:=mapM_some_get tM 0 0 (by simp[h])
                    have hl':0<rest.length:=by have:=mapM_some_length tM;simp at this;omega
                    rw[bZ hl',kU] at h0
                    obtain⟨vs,e1,_⟩:=h0
                    have:=World.cells?_block e1 hpos
                    refine(hb ?_).elim
                    unfold Addr.add at this
                    split at this<;>exact this
                rw[this] at tM
                exact tM
            · cases hx
        · cases h
      · cases h
    · rename_i fs hu
      simp only[kU] at h
      obtain⟨te,h1,h⟩:=h
      unfold DataW.trod at hx⊢
      simp only[hu] at hx⊢
      have each:∀(o:Nat) (l:List Field) (ts:List Ty),ya P (jr P n deep) o l=some ts->∀f∈l,∃t1,jr P n deep f.type=some t1:=by
        intro o l;induction l generalizing o with
        |nil=>intro _ _ f hf;cases hf
        |cons f l ih=>
          intro ts h f' hf';simp only[ya] at h;split at h
          · simp only[kU] at h
            obtain⟨t1,e1,h⟩:=h
            split at h
            · simp only[mJ] at h
              obtain⟨t2,e2,_⟩:=h
              rcases cu.1 hf' with rfl|hf'
              · exact⟨t1,e1⟩
              · exact ih _ _ e2 f' hf'
            · cases h
          · cases h
      split at hx
      · rename_i hc
        rw[az hc]
        simp only[mJ] at hx⊢
        obtain⟨xs,hx,rfl⟩:=hx
        refine⟨xs,mapM_carry hx λf y hf _ hv=>?_,rfl⟩
        obtain⟨t1,e1⟩:=each _ _ _ h1 f hf
        exact Me n deep _ _ e1 _ _ _ hv
      · cases hx
    · cases h
inductive mM where
  |one (ty:Ty)
  |agg (tys:List Ty)
inductive s6:mM->X->Prop
  |one {ty x}:iV ty x->s6 (.one ty) x
  |agg {tys:List Ty} {l:List X}:l.length=tys.length->(∀(j:Nat) ty x,tys[j]?=some ty->l[j]?=some x->iV ty x)->s6 (.agg tys) (.agg l)
def tg(P:Program)(t:TypeId):Option mM:=match P.underlying t with
  |some (.struct _)=>(jr P 20 true t).map .agg
  |some .bool=>some (.one .bool)
  |some (.int k)=>some (.one (.int k))
  |some .string=>some (.one .str)
  |some (.slice _)=>(jr P 20 true t).bind fun
    |[ty]=>some (.one ty)
    |_=>none
  |_=>none
def Ny{c:C}(h1:c.cell)(h2:c.cQ):c.bare:=by cases c<;>first|trivial|exact h2.elim
structure Nd (w:World) (a:mM) (v:Value) (c:C):Prop where
  val:c.val=v
  ok:c.ok w (Zf (λb _=>b<w.heap.size) λ_ _=>False)
  bare:c.bare
  fp:∀b k,¬c.fp b k
  za:s6 a c.er
def DY{ty:Ty}{cs:List Value}{Cs:List C}{v:Value}(h:k8 w [ty] cs Cs)(e:cs=[v]):∃c,Nd w (.one ty) v c:=by
  subst e;match Cs,h with
  |[c],⟨h1,h2,_⟩=>exact⟨c,h1,h2.ok,Ny h2.cell h2.cQ,h2.fp,.one h2.za⟩
def Vw{r:Reach}{base:Nat}{t:TypeId}{v:Value}{d:DataW H}{p:List MemPlace}{a:mM}(ha:tg P t=some a)(hv:Value.okWide P w r base t v)(hd:DataW.Trod enc P w 0 sp held t v d p):∃c,Nd w a v c:=by
  obtain⟨fuel,hf⟩:=hd;unfold tg at ha;split at ha
  · rename_i fs hu
    simp only[mJ] at ha
    obtain⟨ts,ht,rfl⟩:=ha
    unfold Value.okWide at hv
    rw[hu] at hv
    obtain⟨cs,rfl,_,ts',_,_,hcell⟩:=hv
    obtain⟨Cs,hC⟩:=trod_good _ _ _ _ ht _ _ _ hf
    obtain⟨l1,l2,l3⟩:=PT hC
    have jc:∀j,j<Cs.length->∃ty,ts[j]?=some ty/\CW w ty (Cs.getD j (.dead undef)):=λj hj=>by obtain⟨ty,c,a1,a2,a3,a4⟩:=I8 hC (j:=j) (by omega);exact⟨ty,a1,by rw[jO,a2];exact a4⟩
    refine⟨.agg Cs.length λj=>Cs.getD j (.dead undef),?_,⟨λj hj=>?_,λj hj b k hf=>?_⟩,λj hj=>?_,λb k ⟨j,hj,hf⟩=>?_,?_⟩
    · show Value.agg _=_
      congr 1
      apply oP
      show (List.range Cs.length).map (λj=>(Cs.getD j (.dead undef)).val)=cs.toList
      have:(Value.agg cs).cells.toList=cs.toList:=rfl
      rw[<-this,l3]
      letI:Bs:=⟨w⟩
      exact mj Cs _ C.val
    · obtain⟨_,_,h⟩:=jc j hj;exact⟨h.cell,h.ok⟩
    · obtain⟨_,_,h⟩:=jc j hj;exact(h.fp b k hf).elim
    · obtain⟨_,_,h⟩:=jc j hj;exact Ny h.cell h.cQ
    · obtain⟨_,_,h⟩:=jc j hj;exact h.fp b k hf
    · refine s6.agg (by simpa using l2) λj ty x hty hx=>?_
      have hj:j<Cs.length:=by
        rcases gW j Cs.length with h|h;· exact h
        · rw[kV (by simpa using h)] at hx;cases hx
      obtain⟨ty',e1,h⟩:=jc j hj
      rw[e1] at hty
      cases hty
      rw[cY,qN hj] at hx
      simp only[cv,dF] at hx
      subst hx
      exact h.za
  · rename_i hu
    cases ha
    obtain⟨Cs,hC⟩:=trod_good 1 true t [.bool] (by simp[jr,hu]) _ _ _ hf
    obtain⟨b,hb,_⟩:=DataW.trod_bool hu hf
    exact DY hC (v:=v) (by unfold Value.okWide at hv;rw[hu] at hv;unfold Cell.okWide at hv;rw[hu] at hv;unfold Cell.ok at hv;rw[hu] at hv;cases v<;>first|rfl|(simp at hv;done))
  · rename_i k hu
    cases ha
    obtain⟨m,hb,_⟩:=DataW.trod_int hu hf
    obtain⟨Cs,hC⟩:=trod_good 1 true t [.int k] (by simp[jr,hu]) _ _ _ hf
    exact DY hC (v:=v) (by unfold Value.okWide at hv;rw[hu] at hv;unfold Cell.okWide at hv;rw[hu] at hv;unfold Cell.ok at hv;rw[hu] at hv;cases v<;>first|rfl|(simp at hv;done))
  · rename_i hu
    cases ha
    obtain⟨m,hb,_⟩:=DataW.trod_string hu hf
    obtain⟨Cs,hC⟩:=trod_good 1 true t [.str] (by simp[jr,hu]) _ _ _ hf
    exact DY hC (v:=v) (by unfold Value.okWide at hv;rw[hu] at hv;unfold Cell.okWide at hv;rw[hu] at hv;unfold Cell.ok at hv;rw[hu] at hv;cases v<;>first|rfl|(simp at hv;done))
  · rename_i e hu
    simp only[kU] at ha
    obtain⟨ts,ht,ha⟩:=ha
    split at ha
    · rename_i ty
      cases ha
      have hc:Cell.okWide P w r base t v:=by unfold Value.okWide at hv;rw[hu] at hv;exact hv
      have hv1:v.cells.toList=[v]:=by unfold Cell.okWide at hc;rw[hu] at hc;unfold Cell.ok at hc;rw[hu] at hc;cases v<;>first|rfl|(simp at hc;done)
      obtain⟨Cs,hC⟩:=trod_good _ _ _ _ ht _ _ _ hf
      exact DY hC hv1
    · cases ha
  · cases ha
def vg:List mM->List X->Prop
  |[],[]=>True
  |a::as,x::xs=>s6 a x/\vg as xs
  |_,_=>False
def Nt{r:Reach}{base:Nat}:∀{ts:List TypeId} {as:List mM} {vs:List Value} {ds:List (DataW H)} {p:List MemPlace},ts.map (tg P)=as.map some->
    (∀(j:Nat) t v,ts[j]?=some t->vs[j]?=some v->Value.okWide P w r base t v)->DataW.TrodAll enc P w 0 sp held ts vs ds p->
    ∃cs:List C,cs.map C.val=vs/\(∀c∈cs,c.ok w (Zf (λb _=>b<w.heap.size) λ_ _=>False)/\c.bare/\∀b k,¬c.fp b k)/\vg as (cs.map C.er)
  |[],[],[],[],_,_,_,_=>⟨[],rfl,λ_ h=>(by cases h),trivial⟩
  |t::ts,a::as,v::vs,d::ds,_,ha,hv,⟨p,q,h1,h2,_⟩=>by
    simp only[aY,mK] at ha;obtain⟨c,hc⟩:=Vw ha.1 (hv 0 t v rfl rfl) h1;obtain⟨cs,e1,e2,e3⟩:=Nt ha.2 (λj t' v' ht gS=>hv (j+1) t' v' (by simpa using ht) (by simpa using gS)) h2;refine⟨c::cs,by simp[hc.val,e1],λx hx=>?_,⟨hc.za,e3⟩⟩;rcases cu.1 hx with rfl|hx;· exact⟨hc.ok,hc.bare,hc.fp⟩
    · exact e2 x hx
def ai2{r:Reach}{base:Nat}{ts:List TypeId}{as:List mM}{vs:List Value}{ds:List (DataW H)}{p:List MemPlace}{f:FuncId}(ha:ts.map (tg P)=as.map some)
    (hv:∀(j:Nat) t v,ts[j]?=some t->vs[j]?=some v->Value.okWide P w r base t v)(hd:DataW.TrodAll enc P w 0 sp held ts vs ds p)
    (hAC:∀xs,vg as xs->@AC ⟨w⟩ P f xs λr _=>r=.bool true):Calls P f vs.toArray w λe w'=>e=.returned (.bool true)/\Below w.heap.size w w':=by
  obtain⟨cs,rfl,hcs,hc⟩:=Nt ha hv hd;refine(hAC _ hc w (λb _=>b<w.heap.size) (λ_ _=>False) cs rfl ⟨λx hx=>(hcs x hx).1,λx hx=>(hcs x hx).2.1,λx hx b k hf=>((hcs x hx).2.2 b k hf).elim,λb k h=>h.elim id False.elim,?_⟩ λb hb=>⟨rfl,λk=>.inl hb⟩).mono λe w' ⟨r,ps,aD,hD,hr⟩=>?_;· refine nO.2 λi j hi hj _ b k hf=>((hcs _ (cI hi)).2.2 b k hf).elim
  · letI:Bs:=⟨w⟩
    have hr':=ru hr
    subst hr'
    exact⟨hD.ends,(hD.ext.mono (S':=λ_ _=>False) λb k ⟨x,hx,hf⟩ _=>(hcs x hx).2.2 b k hf).below⟩
def Vv{t:TypeId}{a:mM}(h:tg P t=some a):∃n deep ts,jr P n deep t=some ts:=by
  unfold tg at h;split at h
  · simp only[mJ] at h
    obtain⟨ts,ht,_⟩:=h
    exact⟨_,_,ts,ht⟩
  · rename_i hu;exact⟨1,true,[.bool],by simp[jr,hu]⟩
  · rename_i k hu;exact⟨1,true,[.int k],by simp[jr,hu]⟩
  · rename_i hu;exact⟨1,true,[.str],by simp[jr,hu]⟩
  · simp only[kU] at h
    obtain⟨ts,ht,_⟩:=h
    exact⟨_,_,ts,ht⟩
  · cases h
def ahR{w':World}(hb:Below w.heap.size w w'):∀{ts:List TypeId} {as:List mM} {vs:List Value} {ds:List (DataW H)} {p:List MemPlace},ts.map (tg P)=as.map some->
    DataW.TrodAll enc P w 0 (λ_=>true) held ts vs ds p->DataW.TrodAll enc P w' 0 (λb=>decide (b<w.heap.size)) held ts vs ds p
  |[],[],[],[],_,_,h=>h
  |t::ts,a::as,v::vs,d::ds,_,ha,⟨p,q,⟨fuel,h1⟩,h2,e⟩=>by simp only[aY,mK] at ha;obtain⟨n,deep,tt,ht⟩:=Vv ha.1;have h3:=Me n deep t tt ht _ _ _ h1;exact⟨p,q,⟨fuel,DataW.trod_carry _ _ _ _ h3 λm hm=>hb.same (DataW.trod_lt _ _ _ _ h3 m hm)⟩,ahR hb ha.2 h2,e⟩
end
end M
set_option linter.unusedVariables false
set_option linter.unusedSimpArgs false
namespace M
open Go
def vh(ts:List Ty)(r:List X):Prop:=r.length=ts.length/\∀(j:Nat) ty x,ts[j]?=some ty->r[j]?=some x->iV ty x
def vh.nil{r:List X}(h:vh [] r):r=[]:=TR.1 h.1
def vh.cons{ty:Ty}{ts:List Ty}{r:List X}(h:vh (ty::ts) r):∃x r',r=x::r'/\iV ty x/\vh ts r':=by
  obtain⟨h1,h2⟩:=h;cases r with
  |nil=>cases h1
  |cons x r=>exact⟨x,r,rfl,h2 0 ty x rfl rfl,by simpa using h1,λj ty x ht hx=>h2 (j+1) ty x (by simpa using ht) (by simpa using hx)⟩
def Q4{α:Type}{e:α->List X}{ok:α->Prop}:∀{xs:List (List X)},(∀r∈xs,∃a,r=e a/\ok a)->∃l:List α,xs=l.map e/\∀a∈l,ok a
  |[],_=>⟨[],rfl,λ_ h=>by cases h⟩
  |r::xs,h=>by
    obtain⟨a,e1,e2⟩:=h r (bE ..);obtain⟨l,e3,e4⟩:=Q4 (λr hr=>h r (cz _ hr));refine⟨a::l,by simp[e1,e3],λb hb=>?_⟩;rcases cu.1 hb with rfl|hb;· exact e2
    · exact e4 b hb
def Xe{α:Type}(e:α->List X)(ok:α->Prop){ts:List Ty}{x:X}(h:iV (.row ts) x)(hr:∀r,vh ts r->∃a,r=e a/\ok a):∃l:List α,x=.row .sl ts.length (l.map e)/\l.length<=9223372036854775807/\∀a∈l,ok a:=by
  cases h with
  |row h1 h2 h3=>rename_i xs;obtain⟨l,rfl,hl⟩:=Q4 (e:=e) (ok:=ok) (xs:=xs) λr hr'=>hr r ⟨h2 r hr',h3 r hr'⟩;rw[dO] at h1;exact⟨l,rfl,h1,hl⟩
def aju{ty:Ty}{x:X}(h:s6 (.one ty) x):iV ty x:=by
  cases h with
  |one h=>exact h
def ajv{a:mM}{as:List mM}{xs:List X}(h:vg (a::as) xs):∃x xs',xs=x::xs'/\s6 a x/\vg as xs':=by
  match xs,h with
  |x::xs',⟨h1,h2⟩=>exact⟨x,xs',rfl,h1,h2⟩
def ajw{xs:List X}(h:vg [] xs):xs=[]:=by
  match xs,h with
  |[],_=>rfl
structure aiw (d:bD):Prop where
  hb:d.cells.length<=9223372036854775807
  hs:∀s∈d.cells,s.length<=9223372036854775807
  hb':d.pending.length<=9223372036854775807
  hs':∀s∈d.pending,s.text.length<=9223372036854775807
  hi:∀s∈d.pending,-9223372036854775808<=s.at_/\s.at_<=9223372036854775807
def Xd{x:X}(h:iV (.int .u8) x):∃b:UInt8,x=.int .u8 (b.toNat:Int):=by
  cases h with
  |int h=>rename_i n;have h':(decide (IntKind.u8.min<=n) && decide (n<=IntKind.u8.max))=true:=h;rw[aq,bn,bn] at h';have h1:0<=n:=h'.1;have h2:n<=255:=h'.2;refine⟨UInt8.ofNat n.toNat,?_⟩;rw[HB];congr 1;omega
def ajx{x:X}(h:iV (.row [.int .u8]) x):∃l:List UInt8,x=.row .sl 1 (l.map eU)/\l.length<=9223372036854775807/\∀b∈l,True:=
  Xe eU (λ_=>True) h λr hr=>by obtain⟨x,r',rfl,h1,h2⟩:=hr.cons;obtain rfl:=h2.nil;obtain⟨b,rfl⟩:=Xd h1;exact⟨b,rfl,trivial⟩
end M
set_option linter.unusedVariables false
set_option linter.unusedSimpArgs false
namespace M
open Go
def acs{γ:Type}{f:ah->cB}(st:γ->ah)(μ:γ->Nat)(Inv:γ->Prop)(E:γ->ah)
    (h:∀g,Inv g->(∃g',Inv g'/\f (st g)=some (.exit 0,E g'))\/∃g',Inv g'/\μ g'<μ g/\f (st g)=some (.normal,st g'))(g:γ)(hg:Inv g):∃g',Inv g'/\aH f (st g)=some (.exit 0,E g'):=by
  suffices H:∀n g,μ g=n->Inv g->∃g',Inv g'/\aH f (st g)=some (.exit 0,E g') from H _ g rfl hg
  intro n;induction n using Nat.strongRecOn with
  |ind n ih=>
    intro g hn hI;rcases h g hI with ⟨g',h1,h2⟩|⟨g',h1,h2,h3⟩;· exact⟨g',h1,by rw[dH,h2];rfl⟩
    · obtain⟨g2,h4,h5⟩:=ih _ (hn▸h2) g' rfl h1
      exact⟨g2,h4,by rw[dH,h3];exact h5⟩
end M
set_option linter.unusedVariables false
set_option linter.unusedSimpArgs false
namespace M
open Go
def S8(m:Nat)(h:m<256):qE [[.int .u8 (m:Int)]]=some [UInt8.ofNat m]:=by
  have:=Mh [UInt8.ofNat m];have e:((UInt8.ofNat m).toNat:Int)=m:=by rw[HB];omega
  simp only[aY,gi,e] at this;exact this
def Mo{n:Int}(h1:0<=n)(h2:n<256):IntKind.u8.wrap n=n:=by simp only[IntKind.wrap,IntKind.signed,IntKind.bits,Bool.false_and,fC,ey];omega
def bu(n:Nat):ag:=Lib.decDigits n
def Rh:∀(n:Nat) (out:ag),n≠0->qc n out=bu n++out:=by
  intro n;induction n using Nat.strongRecOn with
  |ind n ih=>
    intro out h;unfold qc bu;rw[qL h,Lib.decDigits];by_cases h1:n<10
    · have e:n / 10=0:=by omega
      have e2:n%10=n:=by omega
      rw[jM h1,e,e2]
      unfold qc
      rw[jM rfl]
      rfl
    · rw[qL h1,ih (n / 10) (by omega) _ (by omega)]
      unfold bu
      rw[nS]
      rfl
def OI:bu 0=[48]:=by unfold bu;rw[Lib.decDigits];rfl
def vD(k:Nat):∀(n:Nat),n<10^(k+1)->(bu n).length<=k+1:=by
  induction k with
  |zero=>intro n h;unfold bu;rw[Lib.decDigits,jM (by simpa using h)];simp
  |succ k ih=>
    intro n h;unfold bu;rw[Lib.decDigits];by_cases h1:n<10;· rw[jM h1];simp
    · rw[qL h1,fE]
      have:=ih (n / 10) (by rw[MF] at h;omega)
      unfold bu at this
      simp only[cG,gH]
      omega
def abO(n:Nat):Lib.itoa (n:Int)=bu n:=by unfold Lib.itoa bu;rw[aC (by omega)];rfl
def AF:List X->Option X
  |[.int .i64 n]=>if -9223372036854775808<=n/\n<=9223372036854775807 then some (.str ⟨(Go.Lib.itoa n).toArray⟩) else none
  |_=>none
def abM(f:FuncId)(n:Nat)(h:n<10^18):mh f AF f [.int .i64 (n:Int)]=some (.str ⟨(bu n).toArray⟩,[.dead]):=by
  have h1:(n:Int)<=9223372036854775807:=by omega
  have h2:=vD 17 n (by omega);simp[mh,AF,abO,scalar,Co,h1];omega
end M
set_option linter.unusedVariables false
set_option linter.unusedSimpArgs false
namespace M
open Go
def wS(s:ag):Nat:=s.length
def wL{α:Type}(w:α->Nat)(l:List α):Nat:=l.length+(l.map w).sum
def oO{α:Type}{w:α->Nat}:∀{l:List α} {a:α},a∈l->w a<=wL w l
  |b::l,a,h=>by
    rcases cu.1 h with rfl|h;· simp[wL];omega
    · have:=oO (w:=w) h
      simp[wL] at this⊢;omega
def bx{α:Type}{w:α->Nat}(l:List α):l.length<=wL w l:=by unfold wL;omega
def bI(n:Int):Prop:=-9223372036854775808<=n/\n<=9223372036854775807
def bS(s:ag):Prop:=s.length<=9223372036854775807
def bB(_:Bool):Prop:=True
def bL{α:Type}(b:α->Prop)(l:List α):Prop:=l.length<=9223372036854775807/\∀a∈l,b a
@[simp] def eI(n:Int):List X:=[.int .i64 n]
@[simp] def ali(m:Md)(l:List Int):X.bQ m (l.map eI)=l.map eI:=by induction l<;>simp_all[X.bQ,X.ef,X.md]
@[simp] def ajc(l:List Int):X.clean.bh (l.map eI)=true:=by induction l<;>simp_all[X.clean.bh,X.clean.cD,X.clean]
structure aE where
  name:ag
  value:ag
  deriving DecidableEq
@[simp] def aK(a:aE):List X:=[.str ⟨(a.name).toArray⟩,.str ⟨(a.value).toArray⟩]
@[simp] def alh(m:Md)(l:List aE):X.bQ m (l.map aK)=l.map aK:=by induction l<;>simp_all[X.bQ,X.ef,X.md]
@[simp] def ajb(l:List aE):X.clean.bh (l.map aK)=true:=by induction l<;>simp_all[X.clean.bh,X.clean.cD,X.clean]
def aJ(a:aE):Nat:=a.name.length+a.value.length
structure Nw (x:aE):Prop where
  akP:bS x.name
  ak1:bS x.value
structure cg where
  status:Int
  fields:List aE
  body:ag
  deriving DecidableEq
@[simp] def jv(m:Md)(a:cg):List X:=[.int .i64 a.status,.row m 2 ((a.fields).map aK),.str ⟨(a.body).toArray⟩]
@[simp] def aln(m m':Md)(l:List cg):X.bQ m (l.map (jv m'))=l.map (jv m):=by induction l<;>simp_all[X.bQ,X.ef,X.md]
@[simp] def ajg(l:List cg):X.clean.bh (l.map (jv .own))=true:=by induction l<;>simp_all[X.clean.bh,X.clean.cD,X.clean]
@[simp] def ajq(l:List cg):X.clean.bh (l.map (jv .sl))=true:=by induction l<;>simp_all[X.clean.bh,X.clean.cD,X.clean]
def ct(a:cg):Nat:=wL aJ a.fields+a.body.length
structure C8 (x:cg):Prop where
  akZ:bI x.status
  abU:(bL Nw) x.fields
  abS:bS x.body
structure Rq where
  method:Int
  path:ag
  fields:List aE
  body:ag
  deriving DecidableEq
@[simp] def dw(m:Md)(a:Rq):List X:=[.int .i64 a.method,.str ⟨(a.path).toArray⟩,.row m 2 ((a.fields).map aK),.str ⟨(a.body).toArray⟩]
@[simp] def alm(m m':Md)(l:List Rq):X.bQ m (l.map (dw m'))=l.map (dw m):=by induction l<;>simp_all[X.bQ,X.ef,X.md]
@[simp] def ajf(l:List Rq):X.clean.bh (l.map (dw .own))=true:=by induction l<;>simp_all[X.clean.bh,X.clean.cD,X.clean]
@[simp] def ajp(l:List Rq):X.clean.bh (l.map (dw .sl))=true:=by induction l<;>simp_all[X.clean.bh,X.clean.cD,X.clean]
def eV(a:Rq):Nat:=a.path.length+wL aJ a.fields+a.body.length
structure C7 (x:Rq):Prop where
  akO:bI x.method
  abW:bS x.path
  abU:(bL Nw) x.fields
  abS:bS x.body
structure Ob where
  path:ag
  names:List ag
  values:List ag
  resp:cg
  t:Int
  deriving DecidableEq
@[simp] def aS(m:Md)(a:Ob):List X:=[.str ⟨(a.path).toArray⟩,.row m 1 ((a.names).map eS),.row m 1 ((a.values).map eS),.int .i64 a.resp.status,.row m 2 ((a.resp.fields).map aK),.str ⟨(a.resp.body).toArray⟩,.int .i64 a.t]
@[simp] def alj(m m':Md)(l:List Ob):X.bQ m (l.map (aS m'))=l.map (aS m):=by induction l<;>simp_all[X.bQ,X.ef,X.md]
@[simp] def ajd(l:List Ob):X.clean.bh (l.map (aS .own))=true:=by induction l<;>simp_all[X.clean.bh,X.clean.cD,X.clean]
@[simp] def ajn(l:List Ob):X.clean.bh (l.map (aS .sl))=true:=by induction l<;>simp_all[X.clean.bh,X.clean.cD,X.clean]
def cr(a:Ob):Nat:=a.path.length+wL wS a.names+wL wS a.values+ct a.resp
structure HW (x:Ob):Prop where
  abW:bS x.path
  akQ:(bL bS) x.names
  ak2:(bL bS) x.values
  J8:C8 x.resp
  J9:bI x.t
structure Kp where
  obj:Ob
  at_:Int
  seq:Int
  deriving DecidableEq
@[simp] def aM(m:Md)(a:Kp):List X:=[.str ⟨(a.obj.path).toArray⟩,.row m 1 ((a.obj.names).map eS),.row m 1 ((a.obj.values).map eS),.int .i64 a.obj.resp.status,.row m 2 ((a.obj.resp.fields).map aK),.str ⟨(a.obj.resp.body).toArray⟩,.int .i64 a.obj.t,.int .i64 a.at_,.int .i64 a.seq]
@[simp] def E8(m m':Md)(l:List Kp):X.bQ m (l.map (aM m'))=l.map (aM m):=by induction l<;>simp_all[X.bQ,X.ef,X.md]
@[simp] def Oo(l:List Kp):X.clean.bh (l.map (aM .own))=true:=by induction l<;>simp_all[X.clean.bh,X.clean.cD,X.clean]
@[simp] def W8(l:List Kp):X.clean.bh (l.map (aM .sl))=true:=by induction l<;>simp_all[X.clean.bh,X.clean.cD,X.clean]
def bH(a:Kp):Nat:=cr a.obj
structure VA (x:Kp):Prop where
  abV:HW x.obj
  abQ:bI x.at_
  abX:bI x.seq
def di(a:Wr):Nat:=a.text.length
structure VE (x:Wr):Prop where
  abQ:bI x.at_
  ak0:bS x.text
def bU(a:bD):Nat:=wL wS a.cells+wL di a.pending
structure Vy (x:bD):Prop where
  akJ:(bL bS) x.cells
  akV:(bL VE) x.pending
structure Bn where
  kind:Int
  a:ag
  b:ag
  t:Int
  deriving DecidableEq
@[simp] def bK(a:Bn):List X:=[.int .i64 a.kind,.str ⟨(a.a).toArray⟩,.str ⟨(a.b).toArray⟩,.int .i64 a.t]
@[simp] def ald(m:Md)(l:List Bn):X.bQ m (l.map bK)=l.map bK:=by induction l<;>simp_all[X.bQ,X.ef,X.md]
@[simp] def ai7(l:List Bn):X.clean.bh (l.map bK)=true:=by induction l<;>simp_all[X.clean.bh,X.clean.cD,X.clean]
def aW(a:Bn):Nat:=a.a.length+a.b.length
structure Nv (x:Bn):Prop where
  QN:bI x.kind
  k_a:bS x.a
  k_b:bS x.b
  J9:bI x.t
structure Sh where
  aG:bD
  ai:List Kp
  aF:List Bn
  next:Int
  seq:Int
  deriving DecidableEq
@[simp] def aO(m:Md)(a:Sh):List X:=[.row m 1 ((a.aG.cells).map eS),.row m 2 ((a.aG.pending).map eW),.row m 9 ((a.ai).map (aM m)),.row m 4 ((a.aF).map bK),.int .i64 a.next,.int .i64 a.seq]
@[simp] def alq(m m':Md)(l:List Sh):X.bQ m (l.map (aO m'))=l.map (aO m):=by induction l<;>simp_all[X.bQ,X.ef,X.md]
@[simp] def aji(l:List Sh):X.clean.bh (l.map (aO .own))=true:=by induction l<;>simp_all[X.clean.bh,X.clean.cD,X.clean]
@[simp] def ajs(l:List Sh):X.clean.bh (l.map (aO .sl))=true:=by induction l<;>simp_all[X.clean.bh,X.clean.cD,X.clean]
def bC(a:Sh):Nat:=bU a.aG+wL bH a.ai+wL aW a.aF
structure VD (x:Sh):Prop where
  akK:Vy x.aG
  akT:(bL VA) x.ai
  abR:(bL Nv) x.aF
  akR:bI x.next
  abX:bI x.seq
structure Fl where
  q:Rq
  who:List Int
  old:Ob
  Ec:Bool
  deriving DecidableEq
@[simp] def zj(m:Md)(a:Fl):List X:=[.int .i64 a.q.method,.str ⟨(a.q.path).toArray⟩,.row m 2 ((a.q.fields).map aK),.str ⟨(a.q.body).toArray⟩,.row m 1 ((a.who).map eI),.str ⟨(a.old.path).toArray⟩,.row m 1 ((a.old.names).map eS),.row m 1 ((a.old.values).map eS),.int .i64 a.old.resp.status,.row m 2 ((a.old.resp.fields).map aK),.str ⟨(a.old.resp.body).toArray⟩,.int .i64 a.old.t,.bool a.Ec]
@[simp] def alg(m m':Md)(l:List Fl):X.bQ m (l.map (zj m'))=l.map (zj m):=by induction l<;>simp_all[X.bQ,X.ef,X.md]
@[simp] def aja(l:List Fl):X.clean.bh (l.map (zj .own))=true:=by induction l<;>simp_all[X.clean.bh,X.clean.cD,X.clean]
@[simp] def ajm(l:List Fl):X.clean.bh (l.map (zj .sl))=true:=by induction l<;>simp_all[X.clean.bh,X.clean.cD,X.clean]
structure Vz (x:Fl):Prop where
  J7:C7 x.q
  ak3:(bL bI) x.who
  akU:HW x.old
  akM:bB x.Ec
structure Se where
  q:Rq
  resp:cg
  t:Int
  deriving DecidableEq
@[simp] def zm(m:Md)(a:Se):List X:=[.int .i64 a.q.method,.str ⟨(a.q.path).toArray⟩,.row m 2 ((a.q.fields).map aK),.str ⟨(a.q.body).toArray⟩,.int .i64 a.resp.status,.row m 2 ((a.resp.fields).map aK),.str ⟨(a.resp.body).toArray⟩,.int .i64 a.t]
@[simp] def alp(m m':Md)(l:List Se):X.bQ m (l.map (zm m'))=l.map (zm m):=by induction l<;>simp_all[X.bQ,X.ef,X.md]
@[simp] def ajh(l:List Se):X.clean.bh (l.map (zm .own))=true:=by induction l<;>simp_all[X.clean.bh,X.clean.cD,X.clean]
@[simp] def ajr(l:List Se):X.clean.bh (l.map (zm .sl))=true:=by induction l<;>simp_all[X.clean.bh,X.clean.cD,X.clean]
structure VC (x:Se):Prop where
  J7:C7 x.q
  J8:C8 x.resp
  J9:bI x.t
structure Rp where
  client:Int
  q:Rq
  resp:cg
  kind:Int
  t:Int
  obj:Ob
  aF:Int
  deriving DecidableEq
@[simp] def zk(m:Md)(a:Rp):List X:=[.int .i64 a.client,.int .i64 a.q.method,.str ⟨(a.q.path).toArray⟩,.row m 2 ((a.q.fields).map aK),.str ⟨(a.q.body).toArray⟩,.int .i64 a.resp.status,.row m 2 ((a.resp.fields).map aK),.str ⟨(a.resp.body).toArray⟩,.int .i64 a.kind,.int .i64 a.t,.str ⟨(a.obj.path).toArray⟩,.row m 1 ((a.obj.names).map eS),.row m 1 ((a.obj.values).map eS),.int .i64 a.obj.resp.status,.row m 2 ((a.obj.resp.fields).map aK),.str ⟨(a.obj.resp.body).toArray⟩,.int .i64 a.obj.t,.int .i64 a.aF]
@[simp] def alk(m m':Md)(l:List Rp):X.bQ m (l.map (zk m'))=l.map (zk m):=by induction l<;>simp_all[X.bQ,X.ef,X.md]
@[simp] def aje(l:List Rp):X.clean.bh (l.map (zk .own))=true:=by induction l<;>simp_all[X.clean.bh,X.clean.cD,X.clean]
@[simp] def ajo(l:List Rp):X.clean.bh (l.map (zk .sl))=true:=by induction l<;>simp_all[X.clean.bh,X.clean.cD,X.clean]
structure VB (x:Rp):Prop where
  abT:bI x.client
  J7:C7 x.q
  J8:C8 x.resp
  QN:bI x.kind
  J9:bI x.t
  abV:HW x.obj
  abR:bI x.aF
structure Ca where
  jq:Sh
  mU:List Fl
  now:Int
  seen:List Se
  sent:List Rp
  deriving DecidableEq
@[simp] def Dx(m:Md)(a:Ca):List X:=[.row m 1 ((a.jq.aG.cells).map eS),.row m 2 ((a.jq.aG.pending).map eW),.row m 9 ((a.jq.ai).map (aM m)),.row m 4 ((a.jq.aF).map bK),.int .i64 a.jq.next,.int .i64 a.jq.seq,.row m 13 ((a.mU).map (zj m)),.int .i64 a.now,.row m 8 ((a.seen).map (zm m)),.row m 18 ((a.sent).map (zk m))]
@[simp] def ale(m m':Md)(l:List Ca):X.bQ m (l.map (Dx m'))=l.map (Dx m):=by induction l<;>simp_all[X.bQ,X.ef,X.md]
@[simp] def ai8(l:List Ca):X.clean.bh (l.map (Dx .own))=true:=by induction l<;>simp_all[X.clean.bh,X.clean.cD,X.clean]
@[simp] def ajk(l:List Ca):X.clean.bh (l.map (Dx .sl))=true:=by induction l<;>simp_all[X.clean.bh,X.clean.cD,X.clean]
structure bCa (x:Ca):Prop where
  akY:VD x.jq
  akL:(bL Vz) x.mU
  akS:bI x.now
  akW:(bL VC) x.seen
  akX:(bL VB) x.sent
structure De where
  kind:Int
  client:Int
  q:Rq
  a:Int
  resp:cg
  qT:Bn
  keep:List Bool
  deriving DecidableEq
@[simp] def Dy(m:Md)(a:De):List X:=[.int .i64 a.kind,.int .i64 a.client,.int .i64 a.q.method,.str ⟨(a.q.path).toArray⟩,.row m 2 ((a.q.fields).map aK),.str ⟨(a.q.body).toArray⟩,.int .i64 a.a,.int .i64 a.resp.status,.row m 2 ((a.resp.fields).map aK),.str ⟨(a.resp.body).toArray⟩,.int .i64 a.qT.kind,.str ⟨(a.qT.a).toArray⟩,.str ⟨(a.qT.b).toArray⟩,.int .i64 a.qT.t,.row m 1 ((a.keep).map eB)]
@[simp] def alf(m m':Md)(l:List De):X.bQ m (l.map (Dy m'))=l.map (Dy m):=by induction l<;>simp_all[X.bQ,X.ef,X.md]
@[simp] def ai9(l:List De):X.clean.bh (l.map (Dy .own))=true:=by induction l<;>simp_all[X.clean.bh,X.clean.cD,X.clean]
@[simp] def ajl(l:List De):X.clean.bh (l.map (Dy .sl))=true:=by induction l<;>simp_all[X.clean.bh,X.clean.cD,X.clean]
structure bDe (x:De):Prop where
  QN:bI x.kind
  abT:bI x.client
  J7:C7 x.q
  k_a:bI x.a
  J8:C8 x.resp
  akI:Nv x.qT
  akN:(bL bB) x.keep
end M
set_option linter.unusedVariables false
set_option linter.unusedSimpArgs false
namespace M
open Go
def cU{β:Type}(p:β->Bool):Nat->List β->Option (Nat×β)
  |_,[]=>none
  |i,b::l=>if p b=true then some (i,b) else cU p (i+1) l
def vO{β:Type}{p:β->Bool}:∀{l:List β} {k i:Nat} {b:β},cU p k l=some (i,b)->k<=i/\l[i - k]?=some b/\p b=true
  |b'::l,k,i,b,h=>by
    unfold cU at h;split at h
    · rename_i hp
      cases h
      exact⟨dz _,by simp,hp⟩
    · obtain⟨h1,h2,h3⟩:=vO h
      refine⟨by omega,?_,h3⟩
      rw[show i - k=(i - (k+1))+1 by omega,HI]
      exact h2
def Pm{β:Type}{p:β->Bool}:∀{l:List β} {k:Nat},cU p k l=none↔∀b∈l,¬p b=true
  |[],k=>by simp[cU]
  |b'::l,k=>by
    unfold cU;by_cases hp:p b'=true;· simp[hp]
    · rw[aC hp,Pm]
      simp[hp]
def tY{xt:Nat}{β:Type}{f:ah->cB}(l:List β)(st:Nat->ah)(p:β->Bool)(R:Nat->β->ah)(E:ah)
    (h:∀i b,l[i]?=some b->i<l.length->f (st i)=if p b=true then some (.ret,R i b) else some (.normal,st (i+1)))
    (hend:f (st l.length)=some (.exit xt,E)):
    aH f (st 0)=(cU p 0 l).elim (some (.exit xt,E)) λx=>some (.ret,R x.1 x.2):=by
  suffices H:∀(r:List β) (i:Nat),l.drop i=r->i<=l.length->aH f (st i)=(cU p i r).elim (some (.exit xt,E)) λx=>some (.ret,R x.1 x.2) from H l 0 rfl (oT _)
  intro r;induction r with
  |nil=>
    intro i hr hi;have:i=l.length:=by have:=dm List.length hr;simp at this;omega
    subst this;rw[dH,hend];rfl
  |cons b r ih=>
    intro i hr hi;have hb:l[i]?=some b:=by have:=dm (λt:List β=>t[0]?) hr;simpa using this
    have hlt:i<l.length:=(aN.1 hb).1;have hd:l.drop (i+1)=r:=by have:=dm List.tail hr;simpa using this
    rw[dH,h i b hb hlt];unfold cU;by_cases hp:p b=true;· simp[hp,lv]
    · simp only[hp]
      exact ih (i+1) hd hlt
def p9{xt:Nat}{β γ:Type}{f:ah->cB}(l:List β)(φ:β->List γ)(st:Nat->List γ->ah)(E:List γ->ah)
    (h:∀i b out,l[i]?=some b->i<l.length->out=(l.take i).flatMap φ->f (st i out)=some (.normal,st (i+1) (out++φ b)))
    (hend:∀out,out=l.flatMap φ->f (st l.length out)=some (.exit xt,E out)):
    aH f (st 0 [])=some (.exit xt,E (l.flatMap φ)):=by
  suffices H:∀(k i:Nat),i+k=l.length->aH f (st i ((l.take i).flatMap φ))=some (.exit xt,E (l.flatMap φ)) from H l.length 0 (by omega)
  intro k;induction k with
  |zero=>
    intro i hi;obtain rfl:i=l.length:=by omega
    rw[uY,dH,hend _ rfl];rfl
  |succ k ih=>
    intro i hi;have hlt:i<l.length:=by omega
    rw[dH,h i l[i] _ (bZ hlt) hlt rfl];have:(l.take i).flatMap φ++φ l[i]=(l.take (i+1)).flatMap φ:=by rw[qH hlt,MW];simp
    simp only[this];exact ih (i+1) (by omega)
def zu{β γ:Type}(g:β->γ)(l:List β):l.flatMap (λb=>[g b])=l.map g:=by induction l<;>simp_all
def zv{β γ:Type}(g:β->γ)(l:List β)(i:Nat)(h:i<=l.length):((l.take i).flatMap (λb=>[g b])).length=i:=by rw[zu];simp;omega
end M
set_option linter.unusedVariables false
set_option linter.unusedSimpArgs false
namespace M
open Go
def nv(b:UInt8):UInt8:=if 65<=b.toNat/\b.toNat<=90 then b+32 else b
def cH(s:ag):ag:=s.map nv
def sN(b:UInt8):Bool:=decide ((97<=b.toNat/\b.toNat<=122)\/(48<=b.toNat/\b.toNat<=57)\/b.toNat=45)
def eu(s:ag):Bool:=bq sN s && decide (1<=(s.length:Int)/\(s.length:Int)<=20)
def iS(lo:Nat)(b:UInt8):Bool:=decide (lo<=b.toNat/\b.toNat<=126)
def gd(s:ag):ag:=Lib.trimB s 32
def fR(s:ag):Bool:=bq (iS 32) s && decide (1<=(s.length:Int)/\(s.length:Int)<=60) && decide (gd s=s)
def eP(n:Int):ag:=if 0<=n/\n<=1000000 then bu n.toNat else []
def iC(b:UInt8):Bool:=decide (48<=b.toNat/\b.toNat<=57)
def mF(s:ag):Nat:=s.foldl (λx b=>10*x+b.toNat - 48) 0
def dx(s:ag):Option Nat:=if mF s<=1000000/\bu (mF s)=s then some (mF s) else none
def iu(s:ag):Bool:=bq (iS 33) s && decide (1<=(s.length:Int)/\(s.length:Int)<=60) && decide (s[0]?.map (λb:UInt8=>(b.toNat:Int))=some 47)
def IG{α:Type}(p:α->Bool):∀(a b:List α),(∃x∈a,p x=false)->(a++b).dropWhile p=a.dropWhile p++b
  |[],b,h=>by simp at h
  |x::a,b,h=>by
    simp only[fD,yw];by_cases hx:p x=true
    · simp only[hx,dr]
      refine IG p a b ?_
      obtain⟨y,hy,hp⟩:=h
      rcases cu.1 hy with rfl|hy
      · rw[hx] at hp;cases hp
      · exact⟨y,hy,hp⟩
    · simp[hx]
def IF{α:Type}(p:α->Bool):∀(a:List α),(∀x∈a,p x=true)->a.dropWhile p=[]
  |[],_=>rfl
  |x::a,h=>by rw[yw,az (h x (bE ..))];exact IF p a λy hy=>h y (cz _ hy)
def II{α:Type}(p:α->Bool):∀{a:List α} {x:α},x∈a->p x=false->x∈a.dropWhile p
  |y::a,x,h,hp=>by
    rw[yw];by_cases hy:p y=true
    · rw[az hy]
      rcases cu.1 h with rfl|h
      · rw[hy] at hp;cases hp
      · exact II p h hp
    · rw[aC hy];exact h
def OM{α:Type}(p:α->Bool)(l:List α):∃a,l=a++l.dropWhile p/\∀x∈a,p x=true:=by refine⟨l.takeWhile p,(List.takeWhile_append_dropWhile).symm,λx hx=>?_⟩;have:=List.all_takeWhile (l:=l) (p:=p);exact oV.1 this x hx
def ahQ(p:UInt8->Bool)(l:List UInt8):(l.reverse.dropWhile p).reverse.dropWhile p=((l.dropWhile p).reverse.dropWhile p).reverse:=by
  by_cases h:∃x∈l,p x=false
  · obtain⟨x,hx,hp⟩:=h
    obtain⟨a,e1,h1⟩:=OM p l
    have hm:x∈l.dropWhile p:=II p hx hp
    have e2:l.reverse.dropWhile p=(l.dropWhile p).reverse.dropWhile p++a.reverse:=by
      conv=>lhs;rw[e1,Hv]
      exact IG p _ _ ⟨x,by simpa using hm,hp⟩
    rw[e2,Hv,TC]
    obtain⟨b,e3,h3⟩:=OM p (l.dropWhile p).reverse
    generalize hd:(l.dropWhile p).reverse.dropWhile p=d at e3⊢
    have aaM:∃y∈d,p y=false:=⟨x,by rw[<-hd];exact II p (by simpa using hm) hp,hp⟩
    have e4:l.dropWhile p=d.reverse++b.reverse:=by have:=dm List.reverse e3;simpa using this
    have e5:(a++d.reverse).dropWhile p=d.reverse.dropWhile p:=by
      clear e1 e2 e3 hm;induction a with
      |nil=>rfl
      |cons y a ih=>rw[fD,yw,az (h1 y (bE ..))];exact ih λz hz=>h1 z (cz _ hz)
    rw[e5]
    have e6:(l.dropWhile p).dropWhile p=l.dropWhile p:=by
      have:∀l:List UInt8,(l.dropWhile p).dropWhile p=l.dropWhile p:=by
        intro l;induction l with
        |nil=>rfl
        |cons y l ih=>
          rw[yw];by_cases hy:p y=true;· rw[az hy];exact ih
          · rw[aC hy,yw,aC hy]
      exact this l
    rw[e4] at e6
    rw[IG p d.reverse b.reverse (by obtain⟨y,hy,hp⟩:=aaM;exact⟨y,by simpa using hy,hp⟩)] at e6
    exact List.append_cancel_right e6
  · have h1:∀x∈l,p x=true:=λx hx=>by
      cases hp:p x with
      |true=>rfl
      |false=>exact absurd ⟨x,hx,hp⟩ h
    rw[IF p l h1,IF p l.reverse (λx hx=>h1 x (by simpa using hx))]
    rfl
def ahP(s:ag):gd s=Lib.trimRightB (Lib.trimLeftB s 32) 32:=ahQ _ s
def S5(s:ag):(gd s).length<=s.length:=by unfold gd Lib.trimB Lib.trimLeftB Lib.trimRightB;have h1:=(TL (l:=(List.dropWhile (λx=>x==32) s.reverse).reverse) (λx=>x==(32:UInt8))).length_le;have h2:=(TL (l:=s.reverse) (λx=>x==(32:UInt8))).length_le;simp only[M7] at h1 h2;omega
def aad{α β:Type}(f:β->α->β)(l:List α)(a:α)(b:β):(l++[a]).foldl f b=f (l.foldl f b) a:=by simp
def Xj(n:Nat):bu n≠[]:=by intro h;have:(bu n).length=Lib.nDigits n:=Lib.decDigits_length n;rw[h] at this;have h2:=Lib.nDigits_pos n;rw[<-this] at h2;simp at h2
def OH(n:Nat)(h:¬n<10):bu n=bu (n / 10)++[UInt8.ofNat (48+n%10)]:=by unfold bu;rw[Lib.decDigits,qL h]
def OG(n:Nat)(h:n<10):bu n=[UInt8.ofNat (48+n)]:=by unfold bu;rw[Lib.decDigits,jM h]
def Du(k:Nat)(h:k<10):(UInt8.ofNat (48+k)).toNat=48+k:=by rw[HB];omega
def Tb:∀n:Nat,mF (bu n)=n:=by
  intro n;induction n using Nat.strongRecOn with
  |ind n ih=>
    by_cases h:n<10
    · rw[OG n h]
      simp only[mF,oX,List.foldl_nil,Du n h]
      omega
    · rw[OH n h]
      have:=ih (n / 10) (by omega)
      unfold mF at this⊢
      rw[aad,this,Du _ (by omega)]
      omega
def OE:∀n:Nat,bq iC (bu n)=true:=by
  intro n;induction n using Nat.strongRecOn with
  |ind n ih=>
    rw[eZ];by_cases h:n<10
    · rw[OG n h]
      intro x hx
      rw[fA.1 hx]
      unfold iC
      rw[Du n h]
      simp;omega
    · rw[OH n h]
      intro x hx
      rcases dX.1 hx with hx|hx
      · exact eZ.1 (ih _ (by omega)) x hx
      · rw[fA.1 hx]
        unfold iC
        rw[Du _ (by omega)]
        simp;omega
def r6{s:ag}{n:Nat}:dx s=some n↔n<=1000000/\bu n=s:=by
  unfold dx;constructor
  · intro h
    split at h
    · rename_i hc
      cases h
      exact hc
    · cases h
  · rintro ⟨h1,rfl⟩
    rw[Tb,az ⟨h1,rfl⟩]
def nX(n:Nat)(h:n<=1000000):(bu n).length<=7:=vD 6 n (by omega)
def Fh(n:Nat)(h:n<=1000000):eP (n:Int)=bu n:=by unfold eP;rw[az (by omega)];rfl
def ac0(n:Nat)(h:n<=1000000):dx (eP n)=some n:=r6.2 ⟨h,(Fh n h).symm⟩
def acY(s:ag)(h:s.length<=7):dx s=if s≠[]/\bq iC s=true/\eP (mF s)=s then some (mF s) else none:=by
  cases hr:dx s with
  |some n=>obtain⟨h1,rfl⟩:=r6.1 hr;rw[Tb,az ⟨Xj n,OE n,Fh n h1⟩]
  |none=>
    rw[aC];rintro ⟨h1,h2,h3⟩
    have:dx s=some (mF s):=by
      refine r6.2 ?_;unfold eP at h3;split at h3
      · rename_i hc
        exact⟨by omega,h3⟩
      · exact absurd h3.symm h1
    rw[this] at hr;cases hr
def acZ(s:ag)(h:7<s.length):dx s=none:=by
  cases hr:dx s with
  |none=>rfl
  |some m=>obtain⟨h1,rfl⟩:=r6.1 hr;have:=nX m h1;omega
def cm(c:UInt8):ag->List ag
  |[]=>[[]]
  |b::s=>if b=c then []::cm c s else match cm c s with
    |w::ws=>(b::w)::ws
    |[]=>[[b]]
def GR(c:UInt8)(s:ag):cm c s≠[]:=by
  cases s with
  |nil=>simp[cm]
  |cons b s=>
    unfold cm;split;· simp
    · split<;>simp
def js(s:ag):List ag:=((cm 44 s).map gd).filter λw=>decide (w≠[])
end M
set_option linter.unusedVariables false
set_option linter.unusedSimpArgs false
namespace M
open Go Go.RowKit
def mO(w w':World)(c:C):Prop:=(∀Z,c.ok w' Z)/\c.bare/\∀b k,c.fp b k->w.heap.size<=b
def Vi[Bs]{P:Program}{f:FuncId}{xs:List X}{r:X}
    (h:∀w zl zb cs,cs.map C.er=xs->mN w zl zb cs->s9 w->Calls P f (cs.map C.val).toArray w λe w'=>∃c:C,e=.returned c.val/\c.er=r/\Below w.heap.size w w'/\mO w w' c):
    AC P f xs λr' ps=>r'=r/\ps=xs.map λ_=>.dead:=by
  intro w zl zb cs e hA je;refine(h w zl zb cs e hA λb hb=>(je b hb).1).mono λe' w' ⟨c,he,hc,hb,c1,c2,c3⟩=>?_;have zP:Ext (λb k=>∃x∈cs,x.fp b k) w w':=⟨hb.os,hb.tape,hb.output,hb.size,λb hl=>.inl (hb.block b hl)⟩;refine⟨c,cs.map λx=>.dead x.val,zl,⟨he,by rw[cK];rfl,zP,⟨λx hx'=>?_,λx hx'=>?_,λx hx' b k hf=>?_,λb k hz=>jJ (hA.cC b k (hz.imp id λh=>h.elim)) hb.size,?_⟩,λx hx' b k hf=>?_,λ_ _ h=>h,λ_ _ h=>.inl h⟩,hc,?_⟩
  · rcases cu.1 hx' with rfl|hx'
    · exact c1 _
    · obtain⟨y,_,rfl⟩:=aU.1 hx';trivial
  · rcases cu.1 hx' with rfl|hx'
    · exact c2
    · obtain⟨y,_,rfl⟩:=aU.1 hx';trivial
  · rcases cu.1 hx' with rfl|hx'
    · have h1:=c3 b k hf
      exact⟨λhz=>by have:=hA.cC b k (.inl hz);omega,λhz=>hz⟩
    · obtain⟨y,_,rfl⟩:=aU.1 hx';exact hf.elim
  · refine eM.2 ⟨λx hx b k hf hf'=>?_,?_⟩
    · obtain⟨y,_,rfl⟩:=aU.1 hx;exact hf'
    · refine nO.2 λi j hi hj _ b k hf=>?_
      obtain⟨y,_,hy⟩:=aU.1 (cI hi)
      rw[<-hy] at hf
      exact hf.elim
  · rcases cu.1 hx' with rfl|hx'
    · exact .inr (c3 b k hf)
    · obtain⟨y,_,rfl⟩:=aU.1 hx';exact hf.elim
  · rw[<-e]
    simp[cK,HE,C.er]
def fN(f0:FuncId)(g:List X->Option X):cy:=λf xs=>if f=f0 then (match g xs with
  |some r=>some (r,xs.map λ_=>.dead)
  |none=>none) else none
def Ff[Bs]{P:Program}{f0:FuncId}{g:List X->Option X}
    (h:∀xs r,g xs=some r->∀w zl zb cs,cs.map C.er=xs->mN w zl zb cs->s9 w->Calls P f0 (cs.map C.val).toArray w λe w'=>∃c:C,e=.returned c.val/\c.er=r/\Below w.heap.size w w'/\mO w w' c):(fN f0 g).Sound P:=λf xs o e=>by
  unfold fN at e;split at e
  · rename_i hf
    subst hf
    split at e
    · rename_i r hr
      cases e
      exact Vi (h xs r hr)
    · cases e
  · cases e
def kX{c:C}{s:ByteArray}(h:c.er=.str s):c=.str s:=by cases c<;>simp[C.er] at h;rw[h]
def pF{c:C}{k:IntKind}{n:Int}(h:c.er=.int k n):c=.int k n:=by cases c<;>simp[C.er] at h;rw[h.1,h.2]
def O2{c:C}{b:Bool}(h:c.er=.bool b):c=.bool b:=by cases c<;>simp[C.er] at h;rw[h]
def map_nil{l:List C}(h:l.map C.er=[]):l=[]:=by simpa using h
def map_cons{l:List C}{x:X}{xs:List X}(h:l.map C.er=x::xs):∃c cs,l=c::cs/\c.er=x/\cs.map C.er=xs:=by
  cases l with
  |nil=>simp at h
  |cons c cs=>simp at h;exact⟨c,cs,rfl,h.1,h.2⟩
def PC{w w':World}{s:ByteArray}(h:s.size<=9223372036854775807):mO w w' (.str s):=⟨λ_=>h,trivial,λ_ _ h=>h.elim⟩
def aae{w w':World}{b:Bool}:mO w w' (.bool b):=⟨λ_=>trivial,trivial,λ_ _ h=>h.elim⟩
def uW(l:List C):C:=.ak l.length λj=>l.getD j (.dead undef)
def aek{α β:Type}(l:List α)(d:α)(g:α->β):((List.range l.length).map λj=>g (l.getD j d))=l.map g:=by
  apply List.ext_getElem;· simp
  · intro i h1 h2
    simp at h1
    simp[h1]
def aaf{w w':World}{g:Nat}{t:TypeId}{l:List ByteArray}(hg:w.heap.size<=g)(hb:w'.heap[g]?=some (.cells (l.map Value.string).toArray t (0,0)))(hs:∀s∈l,s.size<=9223372036854775807):
    mO w w' (.row .own 1 (some (g,0,none)) l.length l.length λi _=>.str (l.getD i ByteArray.empty)):=by
  have hm:∀j,j<l.length->l.getD j ByteArray.empty∈l:=λj hj=>by simp[List.getD,hj]
  refine⟨λZ=>⟨dz _,λi j hi hj=>⟨g,0,rfl,?_,λh=>absurd rfl h⟩,λi j hi hj=>⟨trivial,trivial,trivial,hs _ (hm i hi)⟩,λ_=>.inr ⟨g,0,_,t,(0,0),rfl,hb,?_,λk _ _=>?_⟩,λi j hi hj b k hf=>hf.elim⟩,trivial,λb k hf=>?_⟩
  · obtain rfl:j=0:=by omega
    simp only[World.cell?,hb]
    simp[C.val,hi,Go.Value.oneCell']
  · simp
  · simp[World.frozen?,hb]
  · obtain⟨_,h|⟨i,j,_,_,h⟩⟩:=hf
    · obtain⟨o,h⟩:=h
      have hgb:=dm Prod.fst (iz h)
      have hgb:g=b:=hgb;exact hgb▸hg
    · exact h.elim
def aeA(l:List ByteArray)(g cap:Nat):(C.row .own 1 (some (g,0,none)) l.length cap λi _=>.str (l.getD i ByteArray.empty)).er=.row .own 1 (l.map λs=>[.str s]):=by show X.row _ _ _=_;congr 1;have:=aek l ByteArray.empty λs=>[X.str s];rw[<-this];rfl
def vI{c:C}{m:Md}{z:Nat}{xs:List (List X)}(h:c.er=.row m z xs):∃A len cap e,c=.row m z A len cap e/\len=xs.length/\∀i,i<len->xs[i]?=some ((List.range z).map λj=>(e i j).er):=by
  cases c with
  |row m' z' A len cap e=>simp only[C.er,X.row.injEq] at h;obtain⟨rfl,rfl,h⟩:=h;refine⟨A,len,cap,e,rfl,by rw[<-h];simp,λi hi=>?_⟩;rw[<-h];simp[hi]
  |_=>simp[C.er] at h
end M
set_option linter.unusedVariables false
set_option linter.unusedSimpArgs false
namespace M
open Go
def GV(s:ag):X:=.str ⟨s.toArray⟩
def KV(l:List ag):X:=.row .own 1 (l.map eS)
def G8:List X->Option X
  |[.str s,.str c]=>if c.data.toList=[32]/\s.size<=9223372036854775807 then some (GV (gd s.data.toList)) else none
  |_=>none
def GS:List X->Option X
  |[.str s,.str c]=>if s.size<4294967281/\1<=c.size then some (KV (Lib.split s.data.toList c.data.toList)) else none
  |_=>none
def Ed:List X->Option X
  |[.str s,.str c]=>some (.bool (Lib.hasPrefix s.data.toList c.data.toList))
  |_=>none
def rz(f:aE):ag:=f.name++[58,32]++f.value++[13,10]
def ja(l:List aE):ag:=l.flatMap rz
def rC:List (List X)->Option (List aE)
  |[]=>some []
  |[.str a,.str b]::r=>(rC r).map λl=>⟨a.data.toList,b.data.toList⟩::l
  |_=>none
def DJ:List X->Option X
  |[.row .af 2 rows]=>(match rC rows with
    |some l=>if (ja l).length<=140737488355328/\l.length<=140737488355328 then some (GV (ja l)) else none
    |none=>none)
  |_=>none
def Pt:∀l:List aE,rC (l.map aK)=some l
  |[]=>rfl
  |f::l=>by simp[rC,Pt l]
def count_nil(c:UInt8):Lib.count [] [c]=0:=by rw[Lib.count_one];rfl
def afb(c:UInt8):∀s:ag,Lib.split s [c]=cm c s:=by
  have key:∀(n:Nat) (s:ag),s.length<=n->Lib.splitK [c] 0 (Lib.count s [c]) s=cm c s:=by
    intro n;induction n with
    |zero=>intro s hs;obtain rfl:s=[]:=TR.1 (by omega);rw[count_nil];rfl
    |succ n ih=>
      intro s hs;cases s with
      |nil=>rw[count_nil];rfl
      |cons b s=>
        simp at hs;have EY:=ih s (by omega);by_cases hb:b=c
        · subst hb
          rw[Lib.count_cons_eq,oS]
          have hi:Lib.index (b::s) [b]=0:=Lib.index_first (i:=0) (oT _) (by simp[Lib.occAt]) (λ_ h=>absurd h (Nat.not_lt_zero _))
          simp only[Lib.splitK,hi,cm]
          simp[EY]
        · rw[Lib.count_cons_ne _ _ _ hb]
          have hnext:Lib.index (b::s) [c]=if Lib.index s [c]=-1 then -1 else Lib.index s [c]+1:=by
            have h:=Lib.index_drop (s:=b::s) (sub:=[c]) (i:=1) (λj hj=>by
              obtain rfl:j=0:=by omega
              simp[Lib.occAt,List.isPrefixOf,yp hb]) (by simp)
            simp at h;exact h
          rw[cm,aC hb,<-EY]
          cases hk:Lib.count s [c] with
          |zero=>simp[Lib.splitK]
          |succ k=>
            simp only[Lib.splitK,hnext]
            by_cases h1:Lib.index s [c]=-1
            · simp[h1]
            · have h0:0<=Lib.index s [c]:=by
                have:-1<=Lib.index s [c]:=Lib.index_ge _ _
                omega
              have h2:¬Lib.index s [c]+1=-1:=by omega
              have h3:(Lib.index s [c]+1).toNat=(Lib.index s [c]).toNat+1:=by omega
              simp[h1,h2,h3]
  intro s;exact key s.length s (dz _)
def ek(c:UInt8):ag->Option (ag×ag)
  |[]=>none
  |b::s=>if b=c then some ([],s) else (ek c s).map λp=>(b::p.1,p.2)
end M
set_option linter.unusedVariables false
set_option linter.unusedSimpArgs false
namespace M
open Go
def eC{β:Type}(p:β->Bool)(l:List β):Nat:=(l.takeWhile λb=> !p b).length
def Rb{β:Type}{f:ah->cB}(l:List β)(st:Nat->ah)(p:β->Bool)(E:Nat->ah){x:Nat}
    (h:∀i b,l[i]?=some b->i<l.length->f (st i)=if p b=true then some (.exit x,E i) else some (.normal,st (i+1)))
    (hend:f (st l.length)=some (.exit x,E l.length)):aH f (st 0)=some (.exit x,E (eC p l)):=by
  suffices H:∀(r:List β) (i:Nat),l.drop i=r->i<=l.length->aH f (st i)=some (.exit x,E (i+eC p r)) by have:=H l 0 rfl (oT _);rwa [mI] at this
  intro r;induction r with
  |nil=>
    intro i hr hi;have:i=l.length:=by have:=dm List.length hr;simp at this;omega
    subst this;rw[dH,hend];rfl
  |cons b r ih=>
    intro i hr hi;have hb:l[i]?=some b:=by have:=dm (λt:List β=>t[0]?) hr;simpa using this
    have hlt:i<l.length:=(aN.1 hb).1;have hd:l.drop (i+1)=r:=by have:=dm List.tail hr;simpa using this
    rw[dH,h i b hb hlt];unfold eC;by_cases hp:p b=true;· simp[hp,fu]
    · have:=ih (i+1) hd hlt
      simp only[hp]
      have e:i+1+eC p r=i+(eC p r+1):=by omega
      rw[e] at this
      simp[hp,fu,this,eC]
def Hf{β:Type}(p:β->Bool)(l:List β):eC p l<=l.length:=by unfold eC;exact(List.takeWhile_sublist _).length_le
def Ta{β:Type}(p:β->Bool):∀(l:List β) (j:Nat) (b:β),j<eC p l->l[j]?=some b->p b=false
  |[],j,b,h,_=>by simp[eC] at h
  |a::l,j,b,h,hb=>by
    unfold eC at h;rw[TE] at h;by_cases hp:p a=true;· simp[hp] at h
    · simp only[hp,MN,dr,cG] at h
      cases j with
      |zero=>simp at hb;subst hb;simpa using hp
      |succ j=>exact Ta p l j b (by unfold eC;omega) (by simpa using hb)
def S9{β:Type}(p:β->Bool):∀(l:List β) (b:β),l[eC p l]?=some b->p b=true
  |[],b,h=>by simp at h
  |a::l,b,h=>by
    unfold eC at h;rw[TE] at h;by_cases hp:p a=true;· simp[hp] at h;subst h;exact hp
    · simp only[hp,MN,dr,cG,HI] at h
      exact S9 p l b h
def fV(c:UInt8)(f:ag->List ag)(s:ag)(i:Nat)(g:List ag×Nat)(b:Option UInt8):List ag×Nat:=match b with
  |some b=>if b=c then (g.1++f ((s.take i).drop g.2),i+1) else g
  |none=>(g.1++f ((s.take i).drop g.2),i+1)
def GQ(c:UInt8):∀(cur rest:ag),(∀b∈cur,b≠c)->cm c (cur++rest)=match cm c rest with
    |w::ws=>(cur++w)::ws
    |[]=>[cur]
  |[],rest,_=>by
    cases h:cm c rest with
    |nil=>exact absurd h (GR c rest)
    |cons w ws=>simpa using h
  |a::cur,rest,h=>by rw[fD,cm,aC (h a (bE ..)),GQ c cur rest λb hb=>h b (cz _ hb)];cases cm c rest<;>simp
def LY(c:UInt8)(cur:ag)(h:∀b∈cur,b≠c):cm c cur=[cur]:=by have:=GQ c cur [] h;simpa [cm] using this
def L4:∀(p cur rest:ag),((p++(cur++rest)).take (p.length+cur.length)).drop p.length=cur
  |[],cur,rest=>by simp
  |a::p,cur,rest=>by have:=L4 p cur rest;simp only[cG,fD,show p.length+1+cur.length=p.length+cur.length+1 by omega,TF,List.drop_succ_cons];exact this
def Px(c:UInt8)(f:ag->List ag)(s:ag):foldI (fV c f s) 0 (s.map some++[none]) ([],0)=((cm c s).flatMap f,s.length+1):=by
  suffices H:∀(rest p cur:ag) (out:List ag),s=p++cur++rest->(∀b∈cur,b≠c)->foldI (fV c f s) (p.length+cur.length) (rest.map some++[none]) (out,p.length)=(out++(cm c (cur++rest)).flatMap f,s.length+1) by have:=H s [] [] [] rfl (by simp);simpa using this
  intro rest;induction rest with
  |nil=>intro p cur out hs hc;simp only[oW] at hs⊢;rw[LY c cur hc];subst hs;have e1:=L4 p cur [];rw[oW] at e1;simp[foldI,fV,e1]
  |cons b rest ih=>
    intro p cur out hs hc;simp only[aY,fD,foldI];by_cases hb:b=c
    · subst hb
      have e1:(s.take (p.length+cur.length)).drop p.length=cur:=by subst hs;have:=L4 p cur (b::rest);rwa [<-nS] at this
      have:=ih (p++cur++[b]) [] (out++f cur) (by simp[hs]) (by simp)
      simp only[fE,cG,gH,kn] at this
      simp only[fV,dr,e1]
      rw[show p.length+cur.length+1=p.length+cur.length+(0+1)+0 by omega,this,GQ b cur (b::rest) hc]
      simp[cm]
    · have:=ih p (cur++[b]) out (by simp[hs]) (by
        intro x hx;rcases dX.1 hx with hx|hx;· exact hc x hx
        · rw[fA.1 hx];exact hb)
      simp only[fE,cG,gH] at this
      simp only[fV,hb,ey]
      rw[show p.length+cur.length+1=p.length+(cur.length+(0+1)) by omega,this]
      simp
def Tj(s:ag):js s=(cm 44 s).flatMap λw=>if gd w≠[] then [gd w] else []:=by
  unfold js;induction cm 44 s with
  |nil=>rfl
  |cons w l ih=>simp only[aY,List.filter_cons,jN,<-ih];by_cases h:gd w=[]<;>simp[h]
@[simp] def ajW(l:List UInt8):l.map (λb:UInt8=>[X.int IntKind.u8 (b.toNat:Int)])=l.map eU:=rfl
@[simp] def amh(l:List UInt8):qE (l.map eU)=some l:=Mh l
def L3(c:UInt8):∀s:ag,((cm c s).map List.length).sum+(cm c s).length=s.length+1
  |[]=>rfl
  |b::s=>by
    have:=L3 c s;unfold cm;split;· simp;omega
    · cases h:cm c s with
      |nil=>exact absurd h (GR c s)
      |cons w ws=>rw[h] at this;simp at this⊢;omega
def SL(c:UInt8)(s:ag):(cm c s).length<=s.length+1:=by have:=L3 c s;omega
def xX(c:UInt8)(s:ag):∀w∈cm c s,w.length<=s.length:=by
  intro w hw;have h:=L3 c s
  have h1:w.length+1<=((cm c s).map List.length).sum+(cm c s).length:=by
    clear h;revert hw;generalize cm c s=l;intro hw;induction l with
    |nil=>cases hw
    |cons x l ih=>
      rcases cu.1 hw with rfl|hw;· simp;omega
      · have:=ih hw;simp;omega
  omega
def Rc(b:UInt8)(h:65<=b.toNat/\b.toNat<=90):(b+32).toNat=b.toNat+32:=by rw[UInt8.toNat_add];have:(32:UInt8).toNat=32:=rfl;omega
def Tn{n:Int}(h1:0<=n)(h2:n<256):IntKind.u8.wrap n=n:=Mo h1 h2
end M
namespace M
def DP{β γ:Type}(φ:β->List γ)(hφ:∀b,(φ b).length<=1)(l:List β)(i:Nat):((l.take i).flatMap φ).length<=i:=by
  induction l generalizing i with
  |nil=>simp
  |cons b l ih=>
    cases i with
    |zero=>simp
    |succ i=>have:=ih i;have:=hφ b;simp only[TF,jN,fE];omega
end M
namespace M
@[simp] def ai4(i:Nat):((i:Int)<0)=False:=by simp
end M
namespace M
def jE{α:Type}(f:α->α)(l:List α)(i:Nat):List α:=(l.take i).map f++l.drop i
@[simp] def ak7{α:Type}(f:α->α)(l:List α)(i:Nat):(jE f l i).length=l.length:=by simp[jE];omega
def acA{α:Type}(f:α->α)(l:List α):jE f l 0=l:=by simp[jE]
def acv{α:Type}(f:α->α)(l:List α):jE f l l.length=l.map f:=by simp[jE]
def acw{α:Type}(f:α->α)(l:List α)(i:Nat)(h:i<l.length):(jE f l i)[i]?=some l[i]:=by
  unfold jE;rw[iU (by simp;omega)];have:i - ((l.take i).map f).length=0:=by simp;omega
  rw[this];simp[h]
def acy{α:Type}(f:α->α)(l:List α)(i:Nat)(h:i<l.length)(h':i<(jE f l i).length):(jE f l i)[i]=l[i]:=by have:=acw f l i h;rw[bZ h'] at this;exact iz this
def acz{α:Type}(f:α->α)(l:List α)(i:Nat)(h:i<l.length):(jE f l i).set i (f l[i])=jE f l (i+1):=by
  unfold jE;rw[Hw _ _ (by simp;omega),qM h];have:i - ((l.take i).map f).length=0:=by simp;omega
  rw[this,qH h];simp only[aP,iA,aY,gi,nS,fD,kn]
end M
namespace M
@[simp] def acC(m:Md):∀(i:Nat) (l:List (List X)),X.bQ m (l.take i)=(X.bQ m l).take i
  |0,l=>by simp[X.bQ]
  |i+1,[]=>by simp[X.bQ]
  |i+1,a::l=>by simp[X.bQ,acC m i l]
@[simp] def acB(m:Md):∀(i:Nat) (l:List (List X)),X.bQ m (l.drop i)=(X.bQ m l).drop i
  |0,l=>by simp
  |i+1,[]=>by simp[X.bQ]
  |i+1,a::l=>by simp[X.bQ,acB m i l]
end M
set_option linter.unusedVariables false
set_option linter.unusedSimpArgs false
namespace M
open Go
abbrev ff:ag:=[99,111,110,116,101,110,116,45,108,101,110,103,116,104]
abbrev wN:ag:=[99,97,99,104,101,45,99,111,110,116,114,111,108]
abbrev ji:ag:=[118,97,114,121]
def ahY{α:Type}{w:α->Nat}{l:List α}{i:Nat}(h:i<l.length):w l[i]<=wL w l:=oO (cI h)
def yh{l:List ag}{a:ag}(h:a∈l):a.length<=wL wS l:=oO (w:=wS) h
def Hi{l:List aE}{a:aE}(h:a∈l):a.name.length+a.value.length<=wL aJ l:=oO (w:=aJ) h
def e9(fs:List aE)(n:ag):Option (Nat×aE):=cU (λf=>decide (f.name=n)) 0 fs
def fU(o:Option (Nat×aE)):Int:=o.elim (-1) λx=>(x.1:Int)
def dR(fs:List aE)(n:ag):Option ag:=(e9 fs n).map λx=>x.2.value
def HV{fs:List aE}{n:ag}{i:Nat}{f:aE}(h:e9 fs n=some (i,f)):∃hi:i<fs.length,fs[i]=f/\f.name=n:=by obtain⟨_,h2,h3⟩:=vO h;simp at h2 h3;obtain⟨hi,e⟩:=aN.1 h2;exact⟨hi,e,h3⟩
def tH(fs:List aE)(n:ag):((dR fs n).getD []).length<=wL aJ fs:=by
  unfold dR;cases h:e9 fs n with
  |none=>simp
  |some x=>obtain⟨i,f⟩:=x;obtain⟨hi,rfl,_⟩:=HV h;have:=Hi (cI hi);simp;omega
def jy(fs:List aE)(x:aE×Nat):Bool:=eu x.1.name && fR x.1.value && decide (fU (e9 fs x.1.name)=x.2) && !decide (x.1.name=ff)
def jX(fs:List aE):Bool:=bq (jy fs) fs.zipIdx && decide ((fs.length:Int)<=8)
def sg(fs:List aE)(n v:ag):List aE:=match e9 fs n with
  |some x=>fs.set x.1 ⟨x.2.name,v⟩
  |none=>fs++[⟨n,v⟩]
def SS{α:Type}(w:α->Nat):∀(l:List α) (i:Nat) (a:α) (h:i<l.length),((l.set i a).map w).sum+w l[i]=(l.map w).sum+w a
  |b::l,0,a,_=>by simp;omega
  |b::l,i+1,a,h=>by have:=SS w l i a (by simpa using h);simp at this⊢;omega
def RW(fs:List aE)(n v:ag):wL aJ (sg fs n v)<=wL aJ fs+n.length+v.length+1:=by
  unfold sg;cases h:e9 fs n with
  |none=>simp[wL,aJ];omega
  |some x=>obtain⟨i,f⟩:=x;obtain⟨hi,rfl,h3⟩:=HV h;have:=SS aJ fs i ⟨fs[i].name,v⟩ hi;simp only[wL,CS];simp only[aJ] at this⊢;omega
def aeh(fs:List aE)(n v:ag):(sg fs n v).length<=fs.length+1:=by
  unfold sg;cases h:e9 fs n with
  |none=>simp
  |some x=>simp
def fm(r:cg):Bool:=decide (100<=r.status/\r.status<=599) && jX r.fields && decide ((r.body.length:Int)<=120)
def wU(q:Rq):Bool:=decide (1<=q.method/\q.method<=4) && iu q.path && jX q.fields && decide ((q.body.length:Int)<=120)
def dJ(fs:List aE):List ag:=(js ((dR fs ji).getD [])).map cH
def nA(l:List ag):Bool:=bq eu l && decide ((l.length:Int)<=4)
def dn(o:Ob):Bool:=fm o.resp && iu o.path && decide (0<=o.t/\o.t<=1000000) && nA o.names && decide (o.names=dJ o.resp.fields) && decide (o.values.length=o.names.length) && bq fR o.values
def dP(b:Bn):Bool:=decide (0<=b.t/\b.t<=1000000) && (if b.kind=1\/b.kind=2 then iu b.a && decide (b.b=[]) else if b.kind=3 then eu b.a && fR b.b else false)
def lZ(b:Bn)(o:Ob):Bool:=decide (o.t<=b.t) && dP b && dn o && (if b.kind=1 then decide (o.path=b.a) else if b.kind=2 then b.a.isPrefixOf o.path else decide (dR o.resp.fields b.a=some b.b))
def fL(l:List Bn)(o:Ob):Bool:=l.any λb=>lZ b o
def nD(w:Wr):Bool:=decide (0<=w.at_/\w.at_<=19)
def cO(d:bD):Bool:=bq nD d.pending && decide ((d.cells.length:Int)=20) && decide ((d.pending.length:Int)<=16)
def kg(l:List Kp)(i:Nat):Int:=if i=0 then 0 else (l[i - 1]?.map λk=>k.seq).getD 0
def ow(S:Int)(l:List Kp)(x:Kp×Nat):Bool:=dn x.1.obj && decide (5<=x.1.at_/\x.1.at_<=19) && bq (λy=>decide ¬y.at_=x.1.at_) (l.take x.2) && decide (kg l x.2<x.1.seq) && decide (x.1.seq<S)
def lC(S:Int)(l:List Kp)(x:Kp×Nat):Bool:=dn x.1.obj && decide (5<=x.1.at_/\x.1.at_<=19) && decide (1<=x.1.seq/\x.1.seq<=S - 1) && decide (x.2=0\/kg l x.2<x.1.seq) && bq (λy=>decide ¬y.at_=x.1.at_) (l.take x.2)
def oz(S:Int)(l:List Kp):Bool:=bq (ow S l) l.zipIdx
def Bf(l:List Kp)(i:Nat)(h:i<l.length):kg l (i+1)=l[i].seq:=by simp[kg,h]
def ab5(S:Int)(l:List Kp):bq (lC S l) l.zipIdx=oz S l:=by
  unfold oz;rw[MI,eZ,eZ];have hm:∀x∈l.zipIdx,∃h:x.2<l.length,x.1=l[x.2]:=λx hx=>by obtain⟨i,hi,rfl⟩:=nT hx;simp at hi;exact⟨by simpa using hi,by simp⟩
  have hz:∀i (h:i<l.length),(l[i],i)∈l.zipIdx:=λi h=>by
    have:(l.zipIdx)[i]'(by simpa using h)=(l[i],i):=by simp
    rw[<-this];exact cI _
  constructor
  · intro h x hx
    have h1:=h x hx
    simp only[lC,ow,aq,bn] at h1⊢
    obtain⟨⟨⟨⟨a,b⟩,c⟩,d⟩,e⟩:=h1
    refine⟨⟨⟨⟨a,b⟩,e⟩,?_⟩,by omega⟩
    rcases d with d|d
    · rw[d]
      have:kg l 0=0:=rfl
      omega
    · exact d
  · intro h
    have pos:∀i (hi:i<l.length),1<=l[i].seq:=by
      intro i;induction i with
      |zero=>intro hi;have h1:=h _ (hz 0 hi);simp only[ow,aq,bn] at h1;have:kg l 0=0:=rfl;omega
      |succ i ih=>intro hi;have h1:=h _ (hz (i+1) hi);simp only[ow,aq,bn] at h1;have h2:=Bf l i (by omega);have h3:=ih (by omega);omega
    intro x hx
    have h1:=h x hx
    obtain⟨hl,e⟩:=hm x hx
    have h2:=pos x.2 hl
    rw[<-e] at h2
    simp only[lC,ow,aq,bn] at h1⊢
    obtain⟨⟨⟨⟨a,b⟩,c⟩,d⟩,f⟩:=h1
    exact⟨⟨⟨⟨a,b⟩,by omega⟩,.inr d⟩,c⟩
def Pj{β:Type}(p:β->Bool):∀(l:List β) (k:Nat),(cU p k l).isSome= !bq (λb=> !p b) l
  |[],_=>rfl
  |b::l,k=>by
    unfold cU bq;by_cases h:p b=true;· simp[h]
    · have:=Pj p l (k+1)
      unfold bq at this
      simp[h,this]
def sO{l:List Kp}{k:Kp}(h:k∈l):cr k.obj<=wL bH l:=oO (w:=bH) h
def Hh{l:List Bn}{b:Bn}(h:b∈l):aW b<=wL aW l:=oO (w:=aW) h
def de(s:Sh):Bool:=cO s.aG && decide ((s.aF.length:Int)<=5) && decide (5<=s.next/\s.next<=19) && decide (1<=s.seq/\s.seq<=100000) && bq dP s.aF && oz s.seq s.ai
end M
set_option linter.unusedVariables false
set_option linter.unusedSimpArgs false
namespace M
open Go
def fX(_:Int)(k:Int):Int:=k
def eE(_:ag)(k:Int):ag:=AU k
def Rm(_:Bool)(k:Int):Bool:=decide (k.tmod 3=0)
def bF{α:Type}(_:α):Nat:=1
def ep{α:Type}(mk:α->Int->α)(n:α->Nat):List α->Int->List α
  |[],_=>[]
  |a::l,k=>mk a k::ep mk n l (k+(n a:Nat))
def nL{α:Type}(n:α->Nat)(l:List α):Nat:=(l.map n).sum
@[simp] def acH{α:Type}(mk:α->Int->α)(n:α->Nat):∀(l:List α) (k:Int),(ep mk n l k).length=l.length
  |[],_=>rfl
  |a::l,k=>by simp[ep,acH mk n l]
def ox(a:aE)(k:Int):aE:=⟨eE a.name (k),eE a.value (k+1)⟩
def bA(a:aE):Nat:=2
def acN(a:Wr)(k:Int):Wr:=⟨fX a.at_ (k),eE a.text (k+1)⟩
def Ow(a:Wr):Nat:=2
def acK(a:Kp)(k:Int):Kp:=⟨⟨eE a.obj.path (k),ep eE bF a.obj.names (k+1),ep eE bF a.obj.values (k+1+(nL bF a.obj.names:Nat)),⟨fX a.obj.resp.status (k+1+(nL bF a.obj.names:Nat)+(nL bF a.obj.values:Nat)),ep ox bA a.obj.resp.fields (k+1+(nL bF a.obj.names:Nat)+(nL bF a.obj.values:Nat)+1),eE a.obj.resp.body (k+1+(nL bF a.obj.names:Nat)+(nL bF a.obj.values:Nat)+1+(nL bA a.obj.resp.fields:Nat))⟩,fX a.obj.t (k+1+(nL bF a.obj.names:Nat)+(nL bF a.obj.values:Nat)+1+(nL bA a.obj.resp.fields:Nat)+1)⟩,fX a.at_ (k+1+(nL bF a.obj.names:Nat)+(nL bF a.obj.values:Nat)+1+(nL bA a.obj.resp.fields:Nat)+1+1),fX a.seq (k+1+(nL bF a.obj.names:Nat)+(nL bF a.obj.values:Nat)+1+(nL bA a.obj.resp.fields:Nat)+1+1+1)⟩
def ID(a:Kp):Nat:=6+nL bF a.obj.names+nL bF a.obj.values+nL bA a.obj.resp.fields
def acI(a:Bn)(k:Int):Bn:=⟨fX a.kind (k),eE a.a (k+1),eE a.b (k+1+1),fX a.t (k+1+1+1)⟩
def Ou(a:Bn):Nat:=4
def acJ(a:Fl)(k:Int):Fl:=⟨⟨fX a.q.method (k),eE a.q.path (k+1),ep ox bA a.q.fields (k+1+1),eE a.q.body (k+1+1+(nL bA a.q.fields:Nat))⟩,ep fX bF a.who (k+1+1+(nL bA a.q.fields:Nat)+1),⟨eE a.old.path (k+1+1+(nL bA a.q.fields:Nat)+1+(nL bF a.who:Nat)),ep eE bF a.old.names (k+1+1+(nL bA a.q.fields:Nat)+1+(nL bF a.who:Nat)+1),ep eE bF a.old.values (k+1+1+(nL bA a.q.fields:Nat)+1+(nL bF a.who:Nat)+1+(nL bF a.old.names:Nat)),⟨fX a.old.resp.status (k+1+1+(nL bA a.q.fields:Nat)+1+(nL bF a.who:Nat)+1+(nL bF a.old.names:Nat)+(nL bF a.old.values:Nat)),ep ox bA a.old.resp.fields (k+1+1+(nL bA a.q.fields:Nat)+1+(nL bF a.who:Nat)+1+(nL bF a.old.names:Nat)+(nL bF a.old.values:Nat)+1),eE a.old.resp.body (k+1+1+(nL bA a.q.fields:Nat)+1+(nL bF a.who:Nat)+1+(nL bF a.old.names:Nat)+(nL bF a.old.values:Nat)+1+(nL bA a.old.resp.fields:Nat))⟩,fX a.old.t (k+1+1+(nL bA a.q.fields:Nat)+1+(nL bF a.who:Nat)+1+(nL bF a.old.names:Nat)+(nL bF a.old.values:Nat)+1+(nL bA a.old.resp.fields:Nat)+1)⟩,Rm a.Ec (k+1+1+(nL bA a.q.fields:Nat)+1+(nL bF a.who:Nat)+1+(nL bF a.old.names:Nat)+(nL bF a.old.values:Nat)+1+(nL bA a.old.resp.fields:Nat)+1+1)⟩
def IC(a:Fl):Nat:=8+nL bA a.q.fields+nL bF a.who+nL bF a.old.names+nL bF a.old.values+nL bA a.old.resp.fields
def acM(a:Se)(k:Int):Se:=⟨⟨fX a.q.method (k),eE a.q.path (k+1),ep ox bA a.q.fields (k+1+1),eE a.q.body (k+1+1+(nL bA a.q.fields:Nat))⟩,⟨fX a.resp.status (k+1+1+(nL bA a.q.fields:Nat)+1),ep ox bA a.resp.fields (k+1+1+(nL bA a.q.fields:Nat)+1+1),eE a.resp.body (k+1+1+(nL bA a.q.fields:Nat)+1+1+(nL bA a.resp.fields:Nat))⟩,fX a.t (k+1+1+(nL bA a.q.fields:Nat)+1+1+(nL bA a.resp.fields:Nat)+1)⟩
def Ov(a:Se):Nat:=6+nL bA a.q.fields+nL bA a.resp.fields
def acL(a:Rp)(k:Int):Rp:=⟨fX a.client (k),⟨fX a.q.method (k+1),eE a.q.path (k+1+1),ep ox bA a.q.fields (k+1+1+1),eE a.q.body (k+1+1+1+(nL bA a.q.fields:Nat))⟩,⟨fX a.resp.status (k+1+1+1+(nL bA a.q.fields:Nat)+1),ep ox bA a.resp.fields (k+1+1+1+(nL bA a.q.fields:Nat)+1+1),eE a.resp.body (k+1+1+1+(nL bA a.q.fields:Nat)+1+1+(nL bA a.resp.fields:Nat))⟩,fX a.kind (k+1+1+1+(nL bA a.q.fields:Nat)+1+1+(nL bA a.resp.fields:Nat)+1),fX a.t (k+1+1+1+(nL bA a.q.fields:Nat)+1+1+(nL bA a.resp.fields:Nat)+1+1),⟨eE a.obj.path (k+1+1+1+(nL bA a.q.fields:Nat)+1+1+(nL bA a.resp.fields:Nat)+1+1+1),ep eE bF a.obj.names (k+1+1+1+(nL bA a.q.fields:Nat)+1+1+(nL bA a.resp.fields:Nat)+1+1+1+1),ep eE bF a.obj.values (k+1+1+1+(nL bA a.q.fields:Nat)+1+1+(nL bA a.resp.fields:Nat)+1+1+1+1+(nL bF a.obj.names:Nat)),⟨fX a.obj.resp.status (k+1+1+1+(nL bA a.q.fields:Nat)+1+1+(nL bA a.resp.fields:Nat)+1+1+1+1+(nL bF a.obj.names:Nat)+(nL bF a.obj.values:Nat)),ep ox bA a.obj.resp.fields (k+1+1+1+(nL bA a.q.fields:Nat)+1+1+(nL bA a.resp.fields:Nat)+1+1+1+1+(nL bF a.obj.names:Nat)+(nL bF a.obj.values:Nat)+1),eE a.obj.resp.body (k+1+1+1+(nL bA a.q.fields:Nat)+1+1+(nL bA a.resp.fields:Nat)+1+1+1+1+(nL bF a.obj.names:Nat)+(nL bF a.obj.values:Nat)+1+(nL bA a.obj.resp.fields:Nat))⟩,fX a.obj.t (k+1+1+1+(nL bA a.q.fields:Nat)+1+1+(nL bA a.resp.fields:Nat)+1+1+1+1+(nL bF a.obj.names:Nat)+(nL bF a.obj.values:Nat)+1+(nL bA a.obj.resp.fields:Nat)+1)⟩,fX a.aF (k+1+1+1+(nL bA a.q.fields:Nat)+1+1+(nL bA a.resp.fields:Nat)+1+1+1+1+(nL bF a.obj.names:Nat)+(nL bF a.obj.values:Nat)+1+(nL bA a.obj.resp.fields:Nat)+1+1)⟩
def Xa(a:Rp):Nat:=13+nL bA a.q.fields+nL bA a.resp.fields+nL bF a.obj.names+nL bF a.obj.values+nL bA a.obj.resp.fields
def Cr(a:Rq)(k:Int):Rq:=⟨a.method,a.path,ep ox bA a.fields (k),a.body⟩
@[simp] def ama(a:Rq)(k:Int):(Cr a k).method=a.method:=rfl
@[simp] def amb(a:Rq)(k:Int):(Cr a k).path=a.path:=rfl
@[simp] def al9(a:Rq)(k:Int):(Cr a k).body=a.body:=rfl
def L9(a:Rq):Nat:=nL bA a.fields
def x7(a:cg)(k:Int):cg:=⟨a.status,ep ox bA a.fields (k),a.body⟩
@[simp] def amd(a:cg)(k:Int):(x7 a k).status=a.status:=rfl
@[simp] def amc(a:cg)(k:Int):(x7 a k).body=a.body:=rfl
def afs(a:cg):Nat:=nL bA a.fields
def L7(a:Ob)(k:Int):Ob:=⟨a.path,ep eE bF a.names (k),ep eE bF a.values (k+(nL bF a.names:Nat)),x7 a.resp (k+(nL bF a.names:Nat)+(nL bF a.values:Nat)),a.t⟩
@[simp] def al6(a:Ob)(k:Int):(L7 a k).path=a.path:=rfl
@[simp] def al7(a:Ob)(k:Int):(L7 a k).resp=x7 a.resp (k+(nL bF a.names:Nat)+(nL bF a.values:Nat)):=rfl
@[simp] def al8(a:Ob)(k:Int):(L7 a k).t=a.t:=rfl
def S1(a:bD)(k:Int):bD:=⟨ep eE bF a.cells (k),ep acN Ow a.pending (k+(nL bF a.cells:Nat))⟩
def L8(a:bD):Nat:=nL bF a.cells+nL Ow a.pending
def Ct(a:Sh)(k:Int):Sh:=⟨S1 a.aG (k),ep acK ID a.ai (k+(L8 a.aG:Nat)),ep acI Ou a.aF (k+(L8 a.aG:Nat)+(nL ID a.ai:Nat)),a.next,a.seq⟩
@[simp] def ame(a:Sh)(k:Int):(Ct a k).aG=S1 a.aG (k):=rfl
@[simp] def amf(a:Sh)(k:Int):(Ct a k).next=a.next:=rfl
@[simp] def amg(a:Sh)(k:Int):(Ct a k).seq=a.seq:=rfl
def Ma(a:Sh):Nat:=L8 a.aG+nL ID a.ai+nL Ou a.aF
def S0(a:Ca)(k:Int):Ca:=⟨Ct a.jq (k),ep acJ IC a.mU (k+(Ma a.jq:Nat)),a.now,ep acM Ov a.seen (k+(Ma a.jq:Nat)+(nL IC a.mU:Nat)),ep acL Xa a.sent (k+(Ma a.jq:Nat)+(nL IC a.mU:Nat)+(nL Ov a.seen:Nat))⟩
@[simp] def alZ(a:Ca)(k:Int):(S0 a k).jq=Ct a.jq (k):=rfl
@[simp] def alY(a:Ca)(k:Int):(S0 a k).now=a.now:=rfl
def xZ(a:De)(k:Int):De:=⟨a.kind,a.client,Cr a.q (k),a.a,x7 a.resp (k+(L9 a.q:Nat)),a.qT,ep Rm bF a.keep (k+(L9 a.q:Nat)+(afs a.resp:Nat))⟩
@[simp] def al3(a:De)(k:Int):(xZ a k).kind=a.kind:=rfl
@[simp] def al2(a:De)(k:Int):(xZ a k).client=a.client:=rfl
@[simp] def al4(a:De)(k:Int):(xZ a k).q=Cr a.q (k):=rfl
@[simp] def al0(a:De)(k:Int):(xZ a k).a=a.a:=rfl
@[simp] def al5(a:De)(k:Int):(xZ a k).resp=x7 a.resp (k+(L9 a.q:Nat)):=rfl
@[simp] def al1(a:De)(k:Int):(xZ a k).qT=a.qT:=rfl
end M
set_option linter.unusedVariables false
set_option linter.unusedSimpArgs false
namespace M
open Go Go.RowKit
def s9.cell[B:Bs]{w:World}(h:s9 w){b k:Nat}{v:Value}(hc:B.W0.cell? ⟨b,k,none⟩=some v):w.cell? ⟨b,k,none⟩=some v:=by
  have hb:b<B.W0.heap.size:=by
    rcases gW b B.W0.heap.size with h|h;· exact h
    · simp[World.cell?,lP h] at hc
  have e:=h b hb;simpa [World.cell?,e] using hc
def VQ(w:World):Below w.heap.size w w.drew:=(Below.refl _ _).drew
def Mf{cs:List C}{s c:ByteArray}(h:cs.map C.er=[.str s,.str c]):cs=[.str s,.str c]:=by obtain⟨a,r,rfl,h1,h2⟩:=map_cons h;obtain⟨b,r',rfl,h3,h4⟩:=map_cons h2;obtain rfl:=map_nil h4;rw[kX h1,kX h3]
def ahM[Bs]{P:Program}{f0:FuncId}(hc:∀(s:ByteArray) (c:UInt8),c.toNat<128->∀w,s.size<=9223372036854775807->
    Calls P f0 #[.string s,.string ⟨#[c]⟩] w λe w'=>e=.returned (.string ⟨(Lib.trimB s.data.toList c).toArray⟩)/\(w'=w\/w'=w.drew)):(fN f0 G8).Sound P:=
  Ff λxs r hg w zl zb cs hx hA hs=>by
    unfold G8 at hg;split at hg
    · rename_i s c
      split at hg
      · rename_i hh
        cases hg
        obtain rfl:=Mf hx
        have e:c=⟨#[32]⟩:=by have:=dm List.toArray hh.1;simp at this;cases c;simp at this;rw[this]
        subst e
        refine(hc s 32 (by decide) w hh.2).mono λe w' ⟨he,hw⟩=>⟨.str ⟨(gd s.data.toList).toArray⟩,he,rfl,?_,PC ?_⟩
        · rcases hw with rfl|rfl
          · exact Below.refl _ _
          · exact VQ _
        · have:=S5 s.data.toList
          have h2:=hh.2
          simp only[ByteArray.size] at h2⊢
          simp at this⊢
          omega
      · cases hg
    · cases hg
def ae8[B:Bs]{P:Program}{f0:FuncId}{g1:Nat}{t9:TypeId}(hm:∃m,B.W0.cell? ⟨g1,0,none⟩=some (.int .i64 m))(hc:∀(s sep:ByteArray) (m:Int) (w:World),s.size<4294967281->w.cell? ⟨g1,0,none⟩=some (.int .i64 m)->1<=sep.size->
    Calls P f0 #[.string s,.string sep] w λe w'=>e=.returned (.slice (some ⟨w.heap.size,0,none⟩) (Lib.countB s sep+1) (Lib.countB s sep+1))/\w'=w.alloc (.cells ((Lib.splitB sep 0 (Lib.countB s sep) s).map Value.string).toArray t9)):(fN f0 GS).Sound P:=
  Ff λxs r hg w zl zb cs hx hA hs=>by
    unfold GS at hg;split at hg
    · rename_i s c
      split at hg
      · rename_i hh
        cases hg
        obtain rfl:=Mf hx
        obtain⟨m,hm⟩:=hm
        have hlen:=Lib.splitB_all c hh.2 0 _ s rfl
        have Qg:=Lib.splitB_data c 0 (Lib.countB s c) s
        refine(hc s c m w hh.1 (hs.cell hm) hh.2).mono λe w' ⟨he,hw⟩=>?_
        subst hw
        refine⟨.row .own 1 (some (w.heap.size,0,none)) (Lib.splitB c 0 (Lib.countB s c) s).length (Lib.splitB c 0 (Lib.countB s c) s).length λi _=>.str ((Lib.splitB c 0 (Lib.countB s c) s).getD i ByteArray.empty),?_,?_,?_,?_⟩
        · rw[he,hlen];rfl
        · rw[aeA]
          unfold KV
          congr 1
          have:Lib.split s.data.toList c.data.toList=(Lib.splitB c 0 (Lib.countB s c) s).map (·.data.toList):=Qg.symm
          rw[this,cK]
          refine cw λx _=>?_
          simp
        · exact(Below.refl _ _).alloc (dz _) _
        · refine aaf (dz _) (t:=t9) ?_ λx hx=>?_
          · show (w.heap.push _)[w.heap.size]?=_
            simp
          · have h1:x.data.toList∈Lib.splitK c.data.toList 0 (Lib.countB s c) s.data.toList:=by rw[<-Qg];exact kj hx
            have h2:∀(k:Nat) (l:List UInt8),∀y∈Lib.splitK c.data.toList 0 k l,y.length<=l.length:=by
              intro k;induction k with
              |zero=>intro l y hy;simp[Lib.splitK] at hy;rw[hy];exact dz _
              |succ k ih=>
                intro l y hy;unfold Lib.splitK at hy;split at hy;· rw[fA.1 hy];exact dz _
                · rcases cu.1 hy with rfl|hy
                  · simp
                    omega
                  · have:=ih _ _ hy;simp at this;omega
            have h3:=h2 _ _ _ h1
            have h4:=hh.1
            have e1:s.size=s.data.toList.length:=Lib.size_eq _
            have e2:x.size=x.data.toList.length:=Lib.size_eq _
            omega
      · cases hg
    · cases hg
def abN[B:Bs]{P:Program}{f0:FuncId}(htab:Lib.TabIs P B.W0 "internal/strconv.uint64pow10" .u64 Lib.pow10Tab) (hc:∀(n:Int),-9223372036854775808<=n->n<=9223372036854775807->∀w,Lib.TabIs P w "internal/strconv.uint64pow10" .u64 Lib.pow10Tab->
    Calls P f0 #[.int .i64 n] w λe w'=>e=.returned (.string ⟨(Lib.itoa n).toArray⟩)/\∃k os,w'=Sort.grow (w.drewN k) os):(mh f0 AF).Sound P:=
  aam λxs r h w hw=>by
    unfold AF at h;split at h
    · rename_i n
      split at h
      · rename_i Qd
        cases h
        exact hc n Qd.1 Qd.2 w (TabIs.same htab hw)
      · cases h
    · cases h
end M
set_option linter.unusedVariables false
namespace Go.Proofs
open Go.RowKit
def alN{H:Type}{enc:TypeId×Value->H}{a:Assume}{C:Checked}{os:Os}{f:FuncId}{fn:Func}{s:ChangeSpec}{conds:List PathCond}{apart fresh handsOn again:Bool}{X:World->Array Value->Prop}
    (hX:∀(w w':World) (args:Array Value),w.heap=w'.heap->X w args->X w' args)
    (own:ownKnob C.prog.godebug=none)(started:os.Started)(noInit:C.prog.inits.idxOf? f=none)(hfn:C.prog.funcs[f]?=some fn)
    (witness:∃(w:World) (tape:Tape) (i:Input),w.os=os/\(w.forCall tape i).Shaped C.prog/\i.vars=[]/\Input.okWide C.prog (w.forCall tape i) .any w.heap.size f i/\
      ((s.pre enc C.prog fn conds apart (w.forCall tape i).memory i.args/\X (w.forCall tape i).memory i.args)/\sizedMet enc C.prog fn (OpenSpec.ofChange s) apart (w.forCall tape i).memory i.args)/\a.holds C.prog (lone (Frame.enter C.prog f i.args .normal) [] (w.forCall tape i)))
    (contract:∀(W:World) (base:Nat) (args:Array Value) (ds gs:List (DataW H)) (before:List MemPlace),
      (∀(j:Nat) t v,fn.params[j]?=some t->args[j]?=some v->Value.okWide C.prog W .any base t v)->
      DataW.Whole enc C.prog fn.params.toList s.vars apart W args.toList ds gs before->
      conds.all (PathCond.test C.prog ⟨fn.params.toList,ds,s.plain.varTypes C.prog,gs⟩)=true->
      (DataW.weightsEach C.prog (fn.params.toList++s.plain.varTypes C.prog) (ds++gs)).all (· <=reachBytes)=true->X W args->
      W.ShapedOpen C.prog->
      a.holds C.prog (lone (Frame.enter C.prog f args .normal) [] W)->
      Calls C.prog f args W λe W'=>∃v,e=.returned v/\s.post enc C.prog fn apart fresh handsOn again W args v W'):
    ReturnsInHanded a C os f .any (λw args=>(s.pre enc C.prog fn conds apart w args/\X w args)/\sizedMet enc C.prog fn (OpenSpec.ofChange s) apart w args) (s.post enc C.prog fn apart fresh handsOn again):=by refine returnsInHanded_of_calls own started noInit witness ?_;intro w tape i _ hsh _ hok hpre hholds;obtain⟨_,_,_,fn',aaW,_,_,_,_,hval⟩:=hok;have e:fn'=fn:=iz (aaW.symm.trans hfn);subst e;obtain⟨⟨⟨ds,gs,before,hw,hc⟩,hx⟩,hz⟩:=hpre;have hw':=DataW.Whole.of_heap (w':=w.forCall tape i) (by rfl) hw;refine(contract (w.forCall tape i) w.heap.size i.args ds gs before hval hw' hc (hz.weights hw) (hX _ _ _ (by rfl) hx) hsh hholds).mono λe W' ⟨v,he,hp⟩=>?_;subst he;exact ChangeSpec.post_blind hp
end Go.Proofs
set_option linter.unusedVariables false
set_option linter.unusedSimpArgs false
namespace M
open Go Go.RowKit
end M
set_option linter.unusedVariables false
set_option linter.unusedSimpArgs false
namespace M
open Go Go.RowKit
def aaF[B:Bs]{P:Program}{f0:FuncId}(hc:∀(s p:ByteArray) (w:World),
    Calls P f0 #[.string s,.string p] w λe w'=>e=.returned (.bool (Lib.hasPrefix s.data.toList p.data.toList))/\w'=w):(fN f0 Ed).Sound P:=
  Ff λxs r hg w zl zb cs hx hA hs=>by
    unfold Ed at hg;split at hg
    · rename_i s c
      cases hg
      obtain rfl:=Mf hx
      refine(hc s c w).mono λe w' ⟨he,hw⟩=>?_
      subst hw
      exact⟨.bool (Lib.hasPrefix s.data.toList c.data.toList),he,rfl,Below.refl _ _,aae⟩
    · cases hg
end M
set_option linter.unusedVariables false
set_option linter.unusedSimpArgs false
namespace M
open Go Go.RowKit
def jz(l:List (ByteArray×ByteArray)):List UInt8:=l.flatMap λf=>f.1.data.toList++[58,32]++f.2.data.toList++[13,10]
def PF{l:List (ByteArray×ByteArray)}{k:Nat}(h:k<l.length):jz (l.take (k+1))=jz (l.take k)++(l[k].1.data.toList++[58,32]++l[k].2.data.toList++[13,10]):=by unfold jz;rw[qH h,MW];simp only[jN,MX,oW]
def aai{l:List (ByteArray×ByteArray)}{k:Nat}(h:k<l.length):(jz (l.take k)).length+l[k].1.size+2+l[k].2.size+2<=(jz l).length:=by
  have e:jz l=jz (l.take (k+1))++jz (l.drop (k+1)):=by unfold jz;rw[<-MW,MC]
  rw[e,PF h];simp only[fE,cG,gH];have h1:l[k].1.data.toList.length=l[k].1.size:=by rw[CH];rfl
  have h2:l[k].2.data.toList.length=l[k].2.size:=by rw[CH];rfl
  omega
def DR(f:aE):ByteArray×ByteArray:=(⟨f.name.toArray⟩,⟨f.value.toArray⟩)
def PE(l:List aE):jz (l.map DR)=ja l:=by unfold jz ja;rw[List.flatMap_map];rfl
def XV:∀{rows:List (List X)} {l:List aE},rC rows=some l->rows=l.map aK:=by
  intro rows;induction rows with
  |nil=>intro l h;simp[rC] at h;subst h;rfl
  |cons r rows ih=>
    intro l h;match r,h with
    |[.str a,.str b],h=>
      simp only[rC] at h;cases hs:rC rows with
      |none=>rw[hs] at h;simp at h
      |some l'=>rw[hs] at h;simp at h;subst h;rw[ih hs];simp
def XK[B:Bs]{P:Program}{f0:FuncId}
    (hc:∀(A:Option Addr) (cap:Nat) (fs:List (ByteArray×ByteArray)) (w:World),
      (∀i f,fs[i]?=some f->∃g o,A=some ⟨g,o,none⟩/\g<w.heap.size/\w.cell? ⟨g,o+i*2,none⟩=some (.string f.1)/\w.cell? ⟨g,o+i*2+1,none⟩=some (.string f.2))->
      (jz fs).length<=140737488355328->fs.length<=140737488355328->
      Calls P f0 #[.slice A fs.length cap] w λe w'=>e=.returned (.string ⟨(jz fs).toArray⟩)/\Below w.heap.size w w'):(fN f0 DJ).Sound P:=
  Ff λxs r hg w zl zb cs hx hA hs=>by
    unfold DJ at hg;split at hg
    · rename_i rows
      split at hg
      · rename_i l hl
        split at hg
        · rename_i hh
          cases hg
          obtain⟨c1,r1,rfl,h1,h2⟩:=map_cons hx
          obtain rfl:=map_nil h2
          obtain⟨A,len,cap,e,rfl,hlen,hrow⟩:=vI h1
          have hrows:=XV hl
          have tJ:len=l.length:=by rw[hlen,hrows];simp
          have ok:=hA.ok _ (bE ..)
          obtain⟨k1,k2,k3,k4,k5⟩:=ok
          have hcell:∀i f,(l.map DR)[i]?=some f->∃g o,(A.map λq=>(⟨q.1,q.2.1,q.2.2⟩:Addr))=some ⟨g,o,none⟩/\g<w.heap.size/\w.cell? ⟨g,o+i*2,none⟩=some (.string f.1)/\w.cell? ⟨g,o+i*2+1,none⟩=some (.string f.2):=by
            intro i f hi;have hi2:i<l.length:=by have:=aN.1 hi;simpa using this.1
            obtain⟨g,o,k9,h0,_⟩:=k2 i 0 (by omega) (by omega);obtain⟨g',o',P0,h0',_⟩:=k2 i 1 (by omega) (by omega);rw[k9] at P0;cases P0;have hr:=hrow i (by omega);rw[hrows,cY,bZ hi2] at hr;rw[cY,bZ hi2] at hi;simp[mH,DR] at hr hi;obtain⟨r1,r2⟩:=hr;have q1:=kX r1.symm;have q2:=kX r2.symm;rw[q1] at h0;rw[q2] at h0';subst hi;refine⟨g,o,by rw[k9];rfl,?_,by simpa [C.val] using h0,by simpa [C.val] using h0'⟩;rcases gW g w.heap.size with h|h;· exact h
            · simp[World.cell?,lP h] at h0
          have key:=hc (A.map λq=>(⟨q.1,q.2.1,q.2.2⟩:Addr)) cap (l.map DR) w hcell (by rw[PE];exact hh.1) (by simpa using hh.2)
          rw[PE,dO,<-tJ] at key
          refine Calls.mono key λe w' ⟨he,hb⟩=>?_
          exact⟨.str ⟨(ja l).toArray⟩,he,rfl,hb,PC (by have:=hh.1;simp only[ByteArray.size,qG];omega)⟩
        · cases hg
      · cases hg
    · cases hg
end M
set_option linter.unusedVariables false
set_option linter.unusedSimpArgs false
namespace M
open Go
def ei{β γ ε:Type}(go:Nat->γ->β->γ ⊕ ε):Nat->List β->γ->γ ⊕ ε
  |_,[],g=>.inl g
  |i,b::l,g=>match go i g b with
    |.inl g'=>ei go (i+1) l g'
    |.inr e=>.inr e
def Km{xt:Nat}{β γ ε:Type}{f:ah->cB}(l:List β)(st:Nat->γ->ah)(go:Nat->γ->β->γ ⊕ ε)(E:γ->ah)(R:ε->Ex×ah)(Inv:Nat->γ->Prop)(g:γ)(h0:Inv 0 g)
    (h:∀i b g,l[i]?=some b->i<l.length->Inv i g->f (st i g)=(match go i g b with|.inl g'=>some (.normal,st (i+1) g')|.inr e=>lv (R e)))
    (hI:∀i b g g',l[i]?=some b->Inv i g->go i g b=.inl g'->Inv (i+1) g')
    (hend:∀g,Inv l.length g->f (st l.length g)=some (.exit xt,E g)):
    aH f (st 0 g)=(match ei go 0 l g with|.inl g'=>some (.exit xt,E g')|.inr e=>lv (R e)):=by
  suffices H:∀(r:List β) (i:Nat) (g:γ),Inv i g->l.drop i=r->i<=l.length->aH f (st i g)=(match ei go i r g with|.inl g'=>some (.exit xt,E g')|.inr e=>lv (R e)) from H l 0 g h0 rfl (oT _)
  intro r;induction r with
  |nil=>
    intro i g hi hr hl;have:i=l.length:=by have:=dm List.length hr;simp at this;omega
    subst this;rw[dH,hend g hi];rfl
  |cons b r ih=>
    intro i g hi hr hl
    have hlt:i<l.length:=by
      rcases gW i l.length with h|h;· exact h
      · rw[MS h] at hr;cases hr
    have hd:=qM hlt;rw[hr] at hd;have hb:l[i]?=some b:=by rw[bZ hlt];cases hd;rfl
    have hr':l.drop (i+1)=r:=by cases hd;rfl
    rw[dH,h i b g hb hlt hi];unfold ei;cases hg:go i g b with
    |inl g'=>exact ih (i+1) g' (hI i b g g' hb hi hg) hr' hlt
    |inr e=>rcases hR:R e with ⟨x,s⟩;cases x<;>simp[fu,lv,hR]
def Sq{β γ ε:Type}{go:Nat->γ->β->γ ⊕ ε}{g:γ}(r:List β):∀(l:List β) (i:Nat),(∀j (h:j<l.length),go (i+j) g l[j]=.inl g)->ei go i (l++r) g=ei go (i+l.length) r g
  |[],i,_=>by simp
  |b::l,i,h=>by
    have h0:=h 0 (by simp);simp only[nP,M4] at h0;rw[fD,ei,h0];simp only;rw[Sq r l (i+1) (λj hj=>by have:=h (j+1) (by simp;omega);simp only[TQ] at this;rw[show i+1+j=i+(j+1) by omega];exact this),cG]
    congr 1;omega
def Sn{β γ ε:Type}(go:Nat->γ->β->γ ⊕ ε)(k:Nat):∀(l:List β) (i:Nat) (g:γ),ei (λj=>go (j+k)) i l g=ei go (i+k) l g
  |[],_,_=>rfl
  |b::l,i,g=>by
    rw[ei,ei];cases go (i+k) g b with
    |inl g'=>simp only;rw[Sn go k l (i+1) g',show i+1+k=i+k+1 by omega]
    |inr e=>rfl
def KZ{β γ ε:Type}{go:Nat->γ->β->γ ⊕ ε}{I:Nat->γ->Prop}{O:ε->Prop}(n:Nat)(h:∀i g b,i<n->I i g->(∀g',go i g b=.inl g'->I (i+1) g')/\∀e,go i g b=.inr e->O e):∀(l:List β) (i:Nat) (g:γ),i+l.length=n->I i g->(∀g',ei go i l g=.inl g'->I n g')/\∀e,ei go i l g=.inr e->O e
  |[],i,g,hn,hg=>by
    have:i=n:=by simpa using hn
    subst this;exact⟨λg' e=>by cases e;exact hg,λe h=>by cases h⟩
  |b::l,i,g,hn,hg=>by
    have h1:=h i g b (by simp at hn;omega) hg;rw[ei];cases ng:go i g b with
    |inl g'=>exact KZ n h l (i+1) g' (by simp at hn;omega) (h1.1 g' ng)
    |inr e=>exact⟨λg' e=>(by cases e),λe he=>(by cases he;exact h1.2 _ ng)⟩
end M
set_option linter.unusedVariables false
set_option linter.unusedSimpArgs false
namespace M
open Go
def crlf:ag:=[13,10]
def bw:ag:=[13,10,13,10]
def bR(c:UInt8)(s:ag):Prop:=∀b∈s,b≠c
def kf{c:UInt8}{s t:ag}:bR c (s++t)↔bR c s/\bR c t:=by
  unfold bR;constructor
  · intro h
    exact⟨λb hb=>h b (Mu _ hb),λb hb=>h b (Mv _ hb)⟩
  · intro h b hb
    rcases dX.1 hb with hb|hb
    · exact h.1 b hb
    · exact h.2 b hb
def ud{c b:UInt8}{s:ag}:bR c (b::s)↔b≠c/\bR c s:=by simp[bR]
def EX(c:UInt8)(t:ag):∀(l r:ag),bR c l->Lib.index (l++r) (c::t)=if Lib.index r (c::t)=-1 then -1 else Lib.index r (c::t)+l.length
  |[],r,_=>by simp only[kn,gH];split<;>simp_all
  |b::l,r,h=>by
    rw[ud] at h;have ih:=EX c t l r h.2;have hge:=Lib.index_ge r (c::t);rw[fD,Lib.index,ih];have hcb:(c==b)=false:=by simp;exact λe=>h.1 e.symm
    have hp:(c::t).isPrefixOf (b::(l++r))=false:=by simp[List.isPrefixOf,hcb]
    rw[hp];simp only[fC,ey,cG];by_cases g:Lib.index r (c::t)=-1;· simp[g]
    · have g2:¬(Lib.index r (c::t)+l.length=-1):=by omega
      simp only[g,ey,ew,g2]
      omega
def abH(c:UInt8)(t:ag)(l:ag)(h:bR c l):Lib.index l (c::t)=-1:=by have:=EX c t l [] h;rw[oW] at this;rw[this];rfl
def J1(c:UInt8)(t:ag)(l r:ag)(h:bR c l):Lib.index (l++(c::t++r)) (c::t)=l.length:=by
  have h0:Lib.index (c::t++r) (c::t)=0:=by rw[fD,Lib.index,az (by simp)]
  rw[EX c t l _ h,h0];simp
def OC(c:UInt8)(t:ag)(l r:ag)(h:bR c l):Lib.cut (l++(c::t++r)) (c::t)=(l,r,true):=by
  unfold Lib.cut;rw[J1 c t l r h,az (by omega)];have e1:((l.length:Int)).toNat=l.length:=by omega
  rw[e1,CK];have e2:l++(c::t++r)=(l++c::t)++r:=by simp
  have e3:l.length+(c::t).length=(l++c::t).length:=by simp
  rw[e2,e3,vb]
def ae7(c:UInt8)(t:ag)(n:Nat)(l:ag)(h:bR c l):Lib.splitK (c::t) 0 n l=[l]:=by
  cases n with
  |zero=>rfl
  |succ n=>rw[Lib.splitK,abH c t l h];rfl
def afa(c:UInt8)(t:ag)(l:ag)(h:bR c l):Lib.split l (c::t)=[l]:=ae7 c t _ l h
def ae9(c:UInt8)(t:ag)(l r:ag)(h:bR c l):Lib.split (l++(c::t++r)) (c::t)=l::Lib.split r (c::t):=by
  have hi:=J1 c t l r h;have e2:l++(c::t++r)=(l++c::t)++r:=by simp
  have e3:l.length+(c::t).length=(l++c::t).length:=by simp
  have hd:(l++(c::t++r)).drop (l.length+(c::t).length)=r:=by rw[e2,e3,vb]
  have hc:=Lib.count_hit (s:=l++(c::t++r)) (sub:=c::t) (by simp) hi;rw[hd] at hc;unfold Lib.split;rw[hc,oS,Lib.splitK,hi];have g:¬(((l.length:Int))==-1)=true:=by simp
  rw[aC g];have e1:((l.length:Int)).toNat=l.length:=by omega
  rw[e1,hd,nP,CK]
def lines:List ag->ag
  |[]=>[]
  |[l]=>l
  |l::k::ls=>l++(crlf++lines (k::ls))
def Q3:∀(ls:List ag),ls≠[]->(∀l∈ls,bR 13 l)->Lib.split (lines ls) crlf=ls
  |[l],_,h=>afa 13 [10] l (h l (bE ..))
  |l::k::ls,_,h=>by have ih:=Q3 (k::ls) (by simp) λx hx=>h x (cz _ hx);have:=ae9 13 [10] l (lines (k::ls)) (h l (bE ..));show Lib.split (l++(crlf++lines (k::ls))) crlf=_;rw[show crlf=13::[10] from rfl,this];rw[show (13::[10]:ag)=crlf from rfl,ih]
def aci:∀(ls:List ag),ls≠[]->(∀l∈ls,l≠[])->(∀l∈ls,bR 13 l)->∃b t,lines ls=b::t/\b≠13
  |[l],_,h,h2=>by obtain⟨b,t,e⟩:=TM (h l (bE ..));exact⟨b,t,e,h2 l (bE ..) b (by rw[e];exact bE ..)⟩
  |l::k::ls,_,h,h2=>by obtain⟨b,t,e⟩:=TM (h l (bE ..));exact⟨b,t++(crlf++lines (k::ls)),by show l++_=_;rw[e];rfl,h2 l (bE ..) b (by rw[e];exact bE ..)⟩
def Q2(b:ag):∀(ls:List ag),ls≠[]->(∀l∈ls,l≠[])->(∀l∈ls,bR 13 l)->Lib.index (lines ls++(bw++b)) bw=(lines ls).length
  |[l],_,h,h2=>J1 13 [10,13,10] l b (h2 l (bE ..))
  |l::k::ls,_,h,h2=>by
    have hk:∀x∈k::ls,x≠[]:=λx hx=>h x (cz _ hx);have hk2:∀x∈k::ls,bR 13 x:=λx hx=>h2 x (cz _ hx);have ih:=Q2 b (k::ls) (by simp) hk hk2;obtain⟨c,t,e,hc⟩:=aci (k::ls) (by simp) hk hk2;have e0:lines (l::k::ls)++(bw++b)=l++(13::10::(lines (k::ls)++(bw++b))):=by show (l++(crlf++lines (k::ls)))++(bw++b)=_;simp[crlf]
    have e1:(lines (l::k::ls)).length=l.length+2+(lines (k::ls)).length:=by show (l++(crlf++lines (k::ls))).length=_;simp[crlf];omega
    have hcb:((13:UInt8)==c)=false:=by simp;exact λe=>hc e.symm
    have p1:bw.isPrefixOf (13::10::(lines (k::ls)++(bw++b)))=false:=by rw[e];simp[bw,List.isPrefixOf,hcb]
    have p2:bw.isPrefixOf (10::(lines (k::ls)++(bw++b)))=false:=by simp[bw,List.isPrefixOf]
    have e2:Lib.index (13::10::(lines (k::ls)++(bw++b))) bw=(lines (k::ls)).length+2:=by
      rw[Lib.index,p1,Lib.index,p2,ih];have q1:¬(((lines (k::ls)).length:Int)==-1)=true:=by simp
      simp only[fC,ey,q1];have q2:¬(((lines (k::ls)).length:Int)+1==-1)=true:=by simp;omega
      simp only[q2];simp;omega
    rw[e0,show bw=13::[10,13,10] from rfl,EX 13 [10,13,10] l _ (h2 l (bE ..)),show (13::[10,13,10]:ag)=bw from rfl,e2,e1,aC (by omega)];omega
def ach(b:ag)(ls:List ag)(h0:ls≠[])(h:∀l∈ls,l≠[])(h2:∀l∈ls,bR 13 l):Lib.cut (lines ls++(bw++b)) bw=(lines ls,b,true):=by
  unfold Lib.cut;rw[Q2 b ls h0 h h2,az (by omega)];have e1:(((lines ls).length:Int)).toNat=(lines ls).length:=by omega
  have e2:lines ls++(bw++b)=(lines ls++bw)++b:=by simp
  have e3:(lines ls).length+bw.length=(lines ls++bw).length:=by simp
  rw[e1,CK,e3,e2,vb]
def oy:ag:=[72,84,84,80,47,49,46,49]
def ic(f:aE):ag:=f.name++([58,32]++f.value)
def DV(fs:List aE):ag:=fs.flatMap λf=>ic f++crlf
def ke(b:ag):ag:=ff++([58,32]++bu b.length)
def kN(r:cg):ag:=oy++32::(bu r.status.toNat++[32,46])
def ga(r:cg):List ag:=kN r::(r.fields.map ic++[ke r.body])
def iw(r:cg):ag:=lines (ga r)++(bw++r.body)
def fZ(r:cg):ag:=if fm r=true then iw r else []
def aag(fs:List aE):ja fs=DV fs:=by unfold ja DV;congr 1;funext f;simp[rz,ic,crlf]
def acg(fs:List aE)(l z:ag):lines (l::(fs.map ic++[z]))=l++(crlf++(DV fs++z)):=by
  induction fs generalizing l with
  |nil=>rfl
  |cons f fs ih=>show l++(crlf++lines (ic f::(fs.map ic++[z])))=_;rw[ih];simp[DV]
def Sk(r:cg):iw r=kN r++(crlf++(ja r.fields++(ke r.body++(bw++r.body)))):=by unfold iw ga;rw[acg,aag];simp
def q9(c:UInt8)(hc:c.toNat<48\/57<c.toNat)(n:Nat):bR c (bu n):=by intro b hb e;have:=eZ.1 (OE n) b hb;simp only[iC,bn] at this;subst e;omega
def G6(c:UInt8)(hc:sN c=false){s:ag}(h:eu s=true):bR c s:=by intro b hb e;unfold eu at h;simp only[aq] at h;have:=eZ.1 h.1 b hb;rw[e,hc] at this;cases this
def aft{s:ag}(h:eu s=true):s≠[]:=by rintro rfl;simp[eu] at h
def Mk(c:UInt8)(hc:iS 32 c=false){s:ag}(h:fR s=true):bR c s:=by intro b hb e;unfold fR at h;simp only[aq] at h;have:=eZ.1 h.1.1 b hb;rw[e,hc] at this;cases this
def DK{fs:List aE}(h:jX fs=true){f:aE}(hf:f∈fs):eu f.name=true/\fR f.value=true/\f.name≠ff:=by unfold jX at h;simp only[aq] at h;obtain⟨i,hi,rfl⟩:=nT hf;have:=eZ.1 h.1 (fs[i],i) (lM (i:=i) (by simp[hi]));unfold jy at this;simp only[aq,oU,MJ] at this;exact⟨this.1.1.1,this.1.1.2,this.2⟩
def O8{fs:List aE}(h:jX fs=true):fs.length<=8:=by unfold jX at h;simp only[aq,bn] at h;omega
def XC{f:aE}(h1:eu f.name=true)(h2:fR f.value=true):bR 13 (ic f)/\bR 10 (ic f)/\ic f≠[]:=by
  refine⟨?_,?_,?_⟩
  · unfold ic
    rw[kf,kf]
    exact⟨G6 13 (by decide) h1,by simp[bR],Mk 13 (by decide) h2⟩
  · unfold ic
    rw[kf,kf]
    exact⟨G6 10 (by decide) h1,by simp[bR],Mk 10 (by decide) h2⟩
  · have:=aft h1
    simp[ic]
def ab7(b:ag):bR 13 (ke b)/\bR 10 (ke b)/\ke b≠[]:=by
  refine⟨?_,?_,by simp[ke]⟩
  · unfold ke
    rw[kf,kf]
    exact⟨by simp[bR,ff],by simp[bR],q9 13 (by decide) _⟩
  · unfold ke
    rw[kf,kf]
    exact⟨by simp[bR,ff],by simp[bR],q9 10 (by decide) _⟩
def aeJ(r:cg):bR 13 (kN r)/\bR 10 (kN r)/\kN r≠[]:=by
  refine⟨?_,?_,by simp[kN,oy]⟩
  · unfold kN
    rw[kf,ud,kf]
    exact⟨by simp[bR,oy],by decide,q9 13 (by decide) _,by simp[bR]⟩
  · unfold kN
    rw[kf,ud,kf]
    exact⟨by simp[bR,oy],by decide,q9 10 (by decide) _,by simp[bR]⟩
def Sm{r:cg}(h:jX r.fields=true):∀l∈ga r,bR 13 l/\bR 10 l/\l≠[]:=by
  intro l hl;unfold ga at hl;simp only[cu,dX,aU,Hu,or_false] at hl;rcases hl with rfl|⟨f,hf,rfl⟩|rfl;· exact aeJ r
  · have:=DK h hf
    exact XC this.1 this.2.1
  · exact ab7 r.body
end M
set_option linter.unusedVariables false
set_option linter.unusedSimpArgs false
namespace M
open Go
open Classical in
noncomputable def mo{α:Type}(body:α->ag)(ok:α->Bool)(z:α)(s:ag):α×Bool:=
  if h:∃r,ok r=true/\body r=s then (h.choose,true) else (z,false)
def KN{α:Type}{body:α->ag}{ok:α->Bool}{z:α}{cand:ag->Option α}(hc:∀r,ok r=true->cand (body r)=some r)(s:ag):
    mo body ok z s=match cand s with
      |some r=>if ok r=true/\body r=s then (r,true) else (z,false)
      |none=>(z,false):=by
  unfold mo;by_cases h:∃r,ok r=true/\body r=s
  · rw[jM h]
    have h1:=h.choose_spec
    have h2:=hc _ h1.1
    rw[h1.2] at h2
    rw[h2]
    simp only
    rw[az h1]
  · rw[qL h]
    cases hs:cand s with
    |none=>rfl
    |some r=>
      simp only
      rw[aC]
      exact λhr=>h ⟨r,hr⟩
def R1{α:Type}{body:α->ag}{ok:α->Bool}{z:α}{s:ag}(h:(mo body ok z s).2=true):ok (mo body ok z s).1=true/\body (mo body ok z s).1=s:=by
  unfold mo at h⊢;by_cases g:∃r,ok r=true/\body r=s;· rw[jM g];exact g.choose_spec
  · rw[qL g] at h;cases h
def RZ{α:Type}{body:α->ag}{ok:α->Bool}{z:α}{s:ag}(h:(mo body ok z s).2=false):mo body ok z s=(z,false):=by
  unfold mo at h⊢;by_cases g:∃r,ok r=true/\body r=s;· rw[jM g] at h;cases h
  · rw[qL g]
def aeo{α:Type}{body:α->ag}{ok:α->Bool}{z:α}{cand:ag->Option α}(hc:∀r,ok r=true->cand (body r)=some r){r:α}(h:ok r=true):mo body ok z (body r)=(r,true):=by rw[KN hc,hc r h];simp only;rw[az ⟨h,trivial⟩]
def colon:ag:=[58,32]
def zx:List ag->Option (List aE)
  |[]=>some []
  |l::ls=>if (Lib.cut l colon).2.2=true then (if ls=[]/\(Lib.cut l colon).1=ff then some [] else (zx ls).map λfs=>⟨(Lib.cut l colon).1,(Lib.cut l colon).2.1⟩::fs) else none
def KF(s:ag):Option (ag×List aE×ag):=
  if (Lib.cut s bw).2.2=true/\((Lib.split (Lib.cut s bw).1 crlf).length:Int)<=10 then (zx (Lib.split (Lib.cut s bw).1 crlf).tail).map λfs=>((Lib.split (Lib.cut s bw).1 crlf).headD [],fs,(Lib.cut s bw).2.1)
  else none
def qF(ws:List ag):Option ag:=match ws with
  |[_,w,_]=>some w
  |_=>none
def KX(s:ag):Option cg:=(KF s).bind λp=>(qF (cm 32 p.1)).map λw=>⟨(((dx w).getD 0:Nat):Int),p.2.1,p.2.2⟩
def dV:cg:=⟨0,[],[]⟩
noncomputable def eT(s:ag):cg×Bool:=mo iw fm dV s
def Ck(w r:ag)(h:bR 32 w):cm 32 (w++32::r)=w::cm 32 r:=by rw[GQ 32 w _ h];simp[cm]
def Sl(r:cg):cm 32 (kN r)=[oy,bu r.status.toNat,[46]]:=by unfold kN;rw[Ck _ _ (by simp[bR,oy]),show ([32,46]:ag)=32::[46] from rfl,Ck _ _ (q9 32 (by decide) _),LY 32 [46] (by simp)]
def Pr(b:ag):∀(fs:List aE),(∀f∈fs,eu f.name=true/\fR f.value=true/\f.name≠ff)->zx (fs.map ic++[ke b])=some fs
  |[],_=>by have:Lib.cut (ke b) colon=(ff,bu b.length,true):=OC 58 [32] ff (bu b.length) (by simp[bR,ff]);simp[zx,this]
  |f::fs,h=>by have hf:=h f (bE ..);have ih:=Pr b fs λx hx=>h x (cz _ hx);have:Lib.cut (ic f) colon=(f.name,f.value,true):=OC 58 [32] f.name f.value (G6 58 (by decide) hf.1);simp only[aY,fD,zx,this,ih];simp
def KR{r:cg}(h:fm r=true):(100<=r.status/\r.status<=599)/\jX r.fields=true/\r.body.length<=120:=by unfold fm at h;simp only[aq,bn] at h;exact⟨h.1.1,h.1.2,by omega⟩
def aeI{r:cg}(h:fm r=true):KX (iw r)=some r:=by
  obtain⟨hs,hf,hb⟩:=KR h;have hl:=Sm hf;have hne:ga r≠[]:=by simp[ga]
  have hc:=ach r.body (ga r) hne (λl h=>(hl l h).2.2) (λl h=>(hl l h).1);have hsp:=Q3 (ga r) hne (λl h=>(hl l h).1);have hlen:=O8 hf;have hp:KF (iw r)=some (kN r,r.fields,r.body):=by unfold KF iw;rw[hc];simp only;rw[hsp,az ⟨trivial,by simp[ga];omega⟩];have ht:(ga r).tail=r.fields.map ic++[ke r.body]:=rfl;rw[ht,Pr r.body r.fields λf hf'=>DK hf hf'];rfl
  unfold KX;rw[hp];simp only[jK];rw[Sl];have hn:dx (bu r.status.toNat)=some r.status.toNat:=r6.2 ⟨by omega,rfl⟩;simp only[qF,cv,hn,sS];have:((r.status.toNat:Nat):Int)=r.status:=by omega
  rw[this]
def Sb{r:cg}{s:ag}(hs:s≠[]):fZ r=s↔fm r=true/\iw r=s:=by
  unfold fZ;constructor
  · intro h
    split at h
    · rename_i g;exact⟨g,h⟩
    · exact absurd h.symm hs
  · rintro ⟨g,h⟩
    rw[az g,h]
def aeH(r:cg):iw r≠[]:=by rw[Sk];simp[kN,oy]
def KT(r:cg):fZ r=[]↔¬fm r=true:=by unfold fZ;have:=aeH r;split<;>simp_all
def mc:ag:=[111,98,106]
def qi(o:Ob):ag:=mc++32::(o.path++32::(eP o.t++32::bu o.values.length))
def kT(l:List ag):ag:=l.flatMap λv=>v++[10]
def nB(o:Ob):ag:=qi o++10::(kT o.values++iw o.resp)
def dU(o:Ob):ag:=if dn o=true then nB o else []
def eR:Ob:=⟨[],[],[],dV,0⟩
noncomputable def jF(s:ag):Ob×Bool:=mo nB dn eR s
def yj(ws:List ag):Option (ag×ag×ag):=match ws with
  |[_,p,t,n]=>some (p,t,n)
  |_=>none
def OA(p r:ag)(h:bR 10 p):ek 10 (p++10::r)=some (p,r):=by
  induction p with
  |nil=>simp[ek]
  |cons b p ih=>rw[ud] at h;rw[fD,ek,aC h.1,ih h.2];rfl
def Tf(c:UInt8){lo:Nat}(hc:iS lo c=false){s:ag}(h:bq (iS lo) s=true):bR c s:=by intro b hb e;have:=eZ.1 h b hb;rw[e,hc] at this;cases this
def RM{s:ag}(h:iu s=true):bR 32 s/\bR 10 s:=by unfold iu at h;simp only[aq] at h;exact⟨Tf 32 (by decide) h.1.1,Tf 10 (by decide) h.1.1⟩
def Rx(c:UInt8)(hc:c.toNat<48\/57<c.toNat)(n:Int):bR c (eP n):=by
  unfold eP;split;· exact q9 c hc _
  · simp[bR]
structure CY (o:Ob):Prop where
  resp:fm o.resp=true
  path:iu o.path=true
  t0:0<=o.t
  t1:o.t<=1000000
  names:nA o.names=true
  ahW:o.names=dJ o.resp.fields
  len:o.values.length=o.names.length
  n4:o.names.length<=4
  vals:∀v∈o.values,fR v=true
def A7{o:Ob}(h:dn o=true):CY o:=by
  unfold dn at h;simp only[aq,bn] at h;have hn:o.names.length<=4:=by have:=h.1.1.1.2;unfold nA at this;simp only[aq,bn] at this;omega
  obtain⟨⟨⟨⟨⟨⟨h1,h2⟩,h3,h4⟩,h5⟩,h6⟩,h7⟩,h8⟩:=h;exact⟨h1,h2,h3,h4,h5,h6,by omega,hn,λv hv=>eZ.1 h8 v hv⟩
def ac6{o:Ob}(h:CY o):cm 32 (qi o)=[mc,o.path,eP o.t,bu o.values.length]:=by unfold qi;rw[Ck _ _ (by simp[bR,mc]),Ck _ _ (RM h.path).1,Ck _ _ (Rx 32 (by decide) _),LY 32 _ (q9 32 (by decide) _)]
def ac5{o:Ob}(h:CY o):bR 10 (qi o):=by unfold qi;rw[kf,ud,kf,ud,kf,ud];exact⟨by simp[bR,mc],by decide,(RM h.path).2,by decide,Rx 10 (by decide) _,by decide,q9 10 (by decide) _⟩
def ahV{o:Ob}(h:CY o):∀v∈o.values,bR 10 v:=λv hv=>Mk 10 (by decide) (h.vals v hv)
def ac3(o:Ob):nB o≠[]:=by simp[nB,qi,mc]
def Rz{o:Ob}{s:ag}(hs:s≠[]):dU o=s↔dn o=true/\nB o=s:=by
  unfold dU;constructor
  · intro h
    split at h
    · rename_i g;exact⟨g,h⟩
    · exact absurd h.symm hs
  · rintro ⟨g,h⟩
    rw[az g,h]
def KA(o:Ob):dU o=[]↔¬dn o=true:=by unfold dU;have:=ac3 o;split<;>simp_all
def ada{cand:ag->Option Ob}(hc:∀o,dn o=true->cand (nB o)=some o)(hn:cand []=none)(s:ag):jF s=match cand s with
    |some o=>if dU o=s then (o,true) else (eR,false)
    |none=>(eR,false):=by
  unfold jF;rw[KN (cand:=cand) hc s];cases hs:cand s with
  |none=>rfl
  |some o=>
    simp only;have hs0:s≠[]:=by rintro rfl;rw[hn] at hs;cases hs
    by_cases g:dU o=s;· rw[az ((Rz hs0).1 g),az g]
    · rw[aC (mt (Rz hs0).2 g),aC g]
end M
set_option linter.unusedVariables false
set_option linter.unusedSimpArgs false
namespace M
open Go
def gR(s:ag)(i:Nat)(g:List ag×Nat)(b:UInt8):(List ag×Nat) ⊕ (List ag×Nat):=
  if b=10/\1<=i/\s[i - 1]?=some 13/\g.2+1<=i then
    (if (s.take (i - 1)).drop g.2=[] then .inr (g.1,i+1) else .inl (g.1++[(s.take (i - 1)).drop g.2],i+1))
  else .inl g
def pO(s:ag):(List ag×Nat) ⊕ (List ag×Nat):=ei (λj=>gR s (j+1)) 0 (s.drop 1) ([],0)
def ig(s:ag):List ag:=match pO s with|.inl g=>g.1|.inr g=>g.1
def lp(s:ag):Int:=match pO s with|.inl g=>-1|.inr g=>g.2
def Qi(s:ag):pO s=ei (gR s) 0 s ([],0):=by
  unfold pO;rw[Sn (gR s) 1];cases s with
  |nil=>rfl
  |cons b s=>
    rw[ei];have:gR (b::s) 0 ([],0) b=.inl ([],0):=by unfold gR;rw[aC (by omega)]
    rw[this];rfl
def Jo(s A l R:ag)(out:List ag)(hs:s=A++(l++(crlf++R)))(hl:bR 13 l):
    ei (gR s) A.length (l++(crlf++R)) (out,A.length)=if l=[] then .inr (out,A.length+2) else ei (gR s) (A.length+l.length+2) R (out++[l],A.length+l.length+2):=by
  rw[Sq (crlf++R) l A.length (λj hj=>by
    unfold gR;rw[aC];rintro ⟨h1,h2,h3,h4⟩;simp only at h4;have hj0:0<j:=by omega
    rw[hs,iU (by omega),mL (by omega)] at h3;exact hl 13 (lM h3) rfl)]
  have g1:gR s (A.length+l.length) (out,A.length) 13=.inl (out,A.length):=by unfold gR;rw[aC];rintro ⟨h1,_⟩;exact absurd h1 (by decide)
  have e1:s[A.length+l.length]?=some 13:=by
    rw[hs,iU (by omega),iU (by omega)];have:A.length+l.length - A.length - l.length=0:=by omega
    rw[this];rfl
  have e2:(s.take (A.length+l.length)).drop A.length=l:=by
    have:s=(A++l)++(crlf++R):=by rw[hs];simp
    rw[this,show A.length+l.length=(A++l).length by simp,CK,vb]
  have g2:gR s (A.length+l.length+1) (out,A.length) 10=if l=[] then .inr (out,A.length+l.length+2) else .inl (out++[l],A.length+l.length+2):=by
    unfold gR;have e3:A.length+l.length+1 - 1=A.length+l.length:=by omega
    rw[e3,az ⟨rfl,by omega,e1,by simp only;omega⟩];simp only;rw[e2]
  show ei (gR s) (A.length+l.length) (13::10::R) (out,A.length)=_;rw[ei,g1];simp only;rw[ei,g2];by_cases h:l=[]
  · subst h
    simp
  · simp only[h,ey]
def Qk(s b:ag):∀(ls:List ag) (A:ag) (out:List ag),ls≠[]->(∀l∈ls,l≠[])->(∀l∈ls,bR 13 l)->s=A++(lines ls++(bw++b))->
    ei (gR s) A.length (lines ls++(bw++b)) (out,A.length)=.inr (out++ls,A.length+(lines ls).length+4)
  |[l],A,out,_,h,h2,hs=>by
    have e:lines [l]++(bw++b)=l++(crlf++([]++(crlf++b))):=by simp[lines,bw,crlf]
    rw[e] at hs⊢;have h0:l≠[]:=h l (bE ..);rw[Jo s A l _ out hs (h2 l (bE ..)),aC h0];have e2:A.length+l.length+2=(A++l++crlf).length:=by simp[crlf];omega
    rw[e2,Jo s (A++l++crlf) [] b _ (by rw[hs];simp) (by simp[bR]),az rfl];simp[crlf,lines];omega
  |l::k::ls,A,out,_,h,h2,hs=>by
    have e:lines (l::k::ls)++(bw++b)=l++(crlf++(lines (k::ls)++(bw++b))):=by show (l++(crlf++lines (k::ls)))++(bw++b)=_;simp
    rw[e] at hs⊢;have h0:l≠[]:=h l (bE ..);rw[Jo s A l _ out hs (h2 l (bE ..)),aC h0];have e2:A.length+l.length+2=(A++l++crlf).length:=by simp[crlf];omega
    rw[e2,Qk s b (k::ls) (A++l++crlf) (out++[l]) (by simp) (λx hx=>h x (cz _ hx)) (λx hx=>h2 x (cz _ hx)) (by rw[hs];simp)];have e3:(lines (l::k::ls)).length=l.length+2+(lines (k::ls)).length:=by show (l++(crlf++lines (k::ls))).length=_;simp[crlf];omega
    rw[e3];simp[crlf];omega
def aaQ(ls:List ag)(b:ag)(h0:ls≠[])(h:∀l∈ls,l≠[])(h2:∀l∈ls,bR 13 l):pO (lines ls++(bw++b))=.inr (ls,(lines ls).length+4):=by have:=Qk (lines ls++(bw++b)) b ls [] [] h0 h h2 rfl;rw[Qi];simpa using this
def Qj(s:ag):wL wS (ig s)<=s.length/\lp s<=s.length/\-1<=lp s:=by
  have H:=KZ (go:=gR s) (I:=λi g=>wL wS g.1<=g.2/\g.2<=i) (O:=λg=>wL wS g.1<=g.2/\g.2<=s.length) s.length (λi g b hi hg=>by
    unfold gR;by_cases hc:b=10/\1<=i/\s[i - 1]?=some 13/\g.2+1<=i
    · rw[az hc]
      by_cases hl:(s.take (i - 1)).drop g.2=[]
      · rw[az hl]
        exact⟨λg' h=>(by cases h),λe h=>(by cases h;simp only;omega)⟩
      · rw[aC hl]
        refine⟨λg' h=>?_,λe h=>(by cases h)⟩
        cases h
        simp only
        have e:wL wS (g.1++[(s.take (i - 1)).drop g.2])=wL wS g.1+1+((s.take (i - 1)).drop g.2).length:=by simp[wL,wS];omega
        have e2:((s.take (i - 1)).drop g.2).length=i - 1 - g.2:=by simp;omega
        rw[e,e2]
        omega
    · rw[aC hc]
      exact⟨λg' h=>(by cases h;omega),λe h=>(by cases h)⟩) s 0 ([],0) (by simp) (by simp[wL])
  rw[<-Qi] at H;unfold ig lp;cases hr:pO s with
  |inl g=>have:=H.1 g hr;simp only;omega
  |inr g=>have:=H.2 g hr;simp only;omega
def q8(x:UInt8×UInt8):Bool:=decide (x.1=58) && decide (x.2=32)
def tD(l:ag):Option (Nat×(UInt8×UInt8)):=cU q8 0 (l.zip (l.drop 1))
def gT(l:ag):List aE:=match tD l with
  |some (k,_)=>if l.take k=ff then [] else [⟨l.take k,l.drop (k+2)⟩]
  |none=>[]
def Pk{β:Type}{p:β->Bool}:∀(l:List β) (k i:Nat) (b:β),l[i]?=some b->p b=true->(∀j,j<i->∀c,l[j]?=some c->p c=false)->cU p k l=some (k+i,b)
  |[],k,i,b,h,_,_=>by simp at h
  |a::l,k,0,b,h,hp,_=>by simp at h;subst h;simp[cU,hp]
  |a::l,k,i+1,b,h,hp,hj=>by have h0:=hj 0 (by omega) a (by simp);rw[HI] at h;have ih:=Pk l (k+1) i b h hp λj hj' c hc=>hj (j+1) (by omega) c (by simpa using hc);simp only[cU,h0,fC,ey,ih];congr 2;omega
def Xc(n v:ag)(h:bR 58 n):tD (n++([58,32]++v))=some (n.length,(58,32)):=by
  unfold tD
  have:=Pk (p:=q8) ((n++([58,32]++v)).zip ((n++([58,32]++v)).drop 1)) 0 n.length (58,32) (by
    rw[M1];constructor
    · rw[iU (by omega)]
      simp
    · rw[oY,iU (by omega)]
      have:1+n.length - n.length=1:=by omega
      rw[this]
      rfl) (by decide) (λj hj c hc=>by
    have h1:=(M1.1 hc).1;rw[mL hj] at h1;have:=h c.1 (lM h1);simp[q8,this])
  rw[this];simp
def Q1{f:aE}(h:bR 58 f.name):gT (ic f)=if f.name=ff then [] else [f]:=by
  unfold gT ic;rw[Xc _ _ h];simp only;have e1:(f.name++([58,32]++f.value)).take f.name.length=f.name:=CK
  have e2:(f.name++([58,32]++f.value)).drop (f.name.length+2)=f.value:=by
    have:f.name++([58,32]++f.value)=(f.name++[58,32])++f.value:=by simp
    rw[this,show f.name.length+2=(f.name++[58,32]).length by simp,vb]
  rw[e1,e2]
def ab9(b:ag):gT (ke b)=[]:=by have:=Q1 (f:=⟨ff,bu b.length⟩) (by simp[bR,ff]);simp only[dr] at this;exact this
def ace(b:ag)(fs:List aE)(h:∀f∈fs,eu f.name=true/\fR f.value=true/\f.name≠ff):(fs.map ic++[ke b]).flatMap gT=fs:=by
  induction fs with
  |nil=>simp[ab9]
  |cons f fs ih=>have hf:=h f (bE ..);have ih:=ih λx hx=>h x (cz _ hx);rw[aY,fD,jN,Q1 (G6 58 (by decide) hf.1),aC hf.2.2,ih];rfl
def acd(l:ag):wL aJ (gT l)<=l.length+1:=by
  unfold gT;cases hc:tD l with
  |none=>simp[wL]
  |some x=>
    simp only;split;· simp[wL]
    · simp[wL,aJ];omega
def acf(ls:List ag):wL aJ (ls.flatMap gT)<=wL wS ls:=by
  induction ls with
  |nil=>simp[wL]
  |cons l ls ih=>have h:=acd l;simp only[wL,jN,fE,iA,ym,cG,aY,oR,wS] at*;omega
def oF(s:ag):Option cg:=if 0<=lp s/\ig s≠[] then (qF (cm 32 ((ig s).headD []))).map λw=>⟨(((dx w).getD 0:Nat):Int),(ig s).tail.flatMap gT,s.drop (lp s).toNat⟩ else none
def aeK{r:cg}(h:fm r=true):oF (iw r)=some r:=by
  obtain⟨hs,hf,hb⟩:=KR h;have hl:=Sm hf;have hne:ga r≠[]:=by simp[ga]
  have hr:=aaQ (ga r) r.body hne (λl h=>(hl l h).2.2) (λl h=>(hl l h).1);have e1:ig (iw r)=ga r:=by unfold ig iw;rw[hr]
  have e2:lp (iw r)=(((lines (ga r)).length+4:Nat):Int):=by unfold lp iw;rw[hr]
  unfold oF;rw[e1,e2,az ⟨by omega,hne⟩];have e3:(ga r).headD []=kN r:=rfl;have e4:(ga r).tail=r.fields.map ic++[ke r.body]:=rfl
  have e5:(iw r).drop (((lines (ga r)).length+4:Nat):Int).toNat=r.body:=by
    unfold iw;have:lines (ga r)++(bw++r.body)=(lines (ga r)++bw)++r.body:=by simp
    rw[this,show (((lines (ga r)).length+4:Nat):Int).toNat=(lines (ga r)++bw).length by simp[bw];omega,vb]
  rw[e3,e4,e5,ace r.body r.fields λf hf'=>DK hf hf',Sl];have hn:dx (bu r.status.toNat)=some r.status.toNat:=r6.2 ⟨by omega,rfl⟩;simp only[qF,cv,hn,sS];have:((r.status.toNat:Nat):Int)=r.status:=by omega
  rw[this]
def aeL:oF []=none:=by unfold oF;rw[aC];intro h;have:lp []=-1:=rfl;omega
def aev(s:ag):eT s=match oF s with
    |some r=>if fZ r=s then (r,true) else (dV,false)
    |none=>(dV,false):=by
  unfold eT;rw[KN (cand:=oF) (λr h=>aeK h) s];cases hs:oF s with
  |none=>rfl
  |some r=>
    simp only;have hs0:s≠[]:=by rintro rfl;rw[aeL] at hs;cases hs
    by_cases g:fZ r=s;· rw[az ((Sb hs0).1 g),az g]
    · rw[aC (mt (Sb hs0).2 g),aC g]
def aeM{s:ag}{r:cg}(h:oF s=some r):ct r<=2*s.length:=by
  unfold oF at h;split at h
  · obtain⟨w,hw,rfl⟩:=mJ.1 h
    have h1:=Qj s
    have h2:=acf (ig s).tail
    have h3:wL wS (ig s).tail<=wL wS (ig s):=by cases ig s<;>simp[wL];omega
    simp only[ct,sX]
    omega
  · cases h
end M
set_option linter.unusedVariables false
set_option linter.unusedSimpArgs false
namespace M
open Go
def Mn{α:Type}(w:α->Nat)(l:List α)(n:Nat):wL w (l.take n)<=wL w l:=by have h:l=l.take n++l.drop n:=(MC n l).symm;have h1:=dm List.length h;have h2:=dm (λl=>(l.map w).sum) h;simp only[fE] at h1;simp only[iA,ym] at h2;unfold wL;omega
end M
set_option linter.unusedVariables false
set_option linter.unusedSimpArgs false
namespace M
open Go
end M
set_option linter.unusedVariables false
set_option linter.unusedSimpArgs false
namespace M
open Go
def j9{α:Type}(q:α->Int)(k:α):List α->List α
  |[]=>[k]
  |x::l=>if q k<q x then k::x::l else x::j9 q k l
def kP{α:Type}(q:α->Int)(l:List α):List α:=l.foldl (λS k=>j9 q k S) []
def r9{α:Type}(q:α->Int)(l:List α):Prop:=l.Pairwise λa b=>q a<=q b
def J4{α:Type}(q:α->Int)(k:α):∀l:List α,(j9 q k l).Perm (k::l)
  |[]=>List.Perm.refl _
  |x::l=>by
    unfold j9;split;· exact List.Perm.refl _
    · exact((J4 q k l).cons x).trans (List.Perm.swap ..)
def abJ{α:Type}{q:α->Int}{k x:α}{l:List α}:x∈j9 q k l↔x=k\/x∈l:=by rw[(J4 q k l).mem_iff];simp
def QK{α:Type}{q:α->Int}{k:α}:∀{l:List α},r9 q l->r9 q (j9 q k l)
  |[],_=>by simp[j9,r9]
  |x::l,h=>by
    unfold r9 at h⊢;rw[eM] at h;unfold j9;split
    · rename_i g
      rw[eM]
      refine⟨λy hy=>?_,eM.2 h⟩
      rcases cu.1 hy with rfl|hy
      · omega
      · have:=h.1 y hy;omega
    · rename_i g
      rw[eM]
      refine⟨λy hy=>?_,QK h.2⟩
      rcases abJ.1 hy with rfl|hy
      · omega
      · exact h.1 y hy
def ae5{α:Type}(q:α->Int)(l:List α)(k:α):kP q (l++[k])=j9 q k (kP q l):=by simp[kP]
def GP{α:Type}(q:α->Int)(l:List α):(kP q l).Perm l:=by
  suffices H:∀(l S:List α),(l.foldl (λS k=>j9 q k S) S).Perm (S++l) by simpa [kP] using H l []
  intro l;induction l with
  |nil=>intro S;simp
  |cons k l ih=>intro S;rw[oX];refine(ih _).trans ?_;refine((J4 q k S).append_right l).trans ?_;simpa using (List.perm_middle (a:=k) (l₁:=S) (l₂:=l)).symm
def ae6{α:Type}(q:α->Int)(l:List α):r9 q (kP q l):=by
  suffices H:∀(l S:List α),r9 q S->r9 q (l.foldl (λS k=>j9 q k S) S) by exact H l [] (by simp[r9])
  intro l;induction l with
  |nil=>intro S h;simpa using h
  |cons k l ih=>intro S h;rw[oX];exact ih _ (QK h)
def jD{α:Type}(q:α->Int)(k:α)(g:List α×Bool)(x:α):List α×Bool:=
  (if g.2=false/\q k<q x then g.1++[k,x] else g.1++[x],g.2||decide (q k<q x))
def EZ{α:Type}(k:α)(g:List α×Bool):List α:=if g.2=true then g.1 else g.1++[k]
def abI{α:Type}(q:α->Int)(k:α)(l:List α)(out:List α):EZ k (l.foldl (jD q k) (out,false))=out++j9 q k l:=by
  have H:∀(l out:List α),l.foldl (jD q k) (out,true)=(out++l,true):=by
    intro l;induction l with
    |nil=>intro out;simp
    |cons x l ih=>intro out;rw[oX];simp only[jD,MP,false_and,ey,Bool.true_or];rw[ih];simp
  induction l generalizing out with
  |nil=>simp[EZ,j9]
  |cons x l ih=>
    rw[oX];unfold j9;by_cases g:q k<q x
    · simp only[jD,g,yt,dr,decide_true,Bool.or_true]
      rw[H]
      simp[EZ]
    · simp only[jD,g,and_false,ey,MK,Bool.or_false]
      rw[ih]
      simp
end M
set_option linter.unusedVariables false
set_option linter.unusedSimpArgs false
namespace M
open Go
structure yG (S:Int) (l:List Kp):Prop where
  k:∀x∈l,dn x.obj=true/\(5<=x.at_/\x.at_<=19)/\1<=x.seq/\x.seq<S
  p:l.Pairwise λx y=>x.at_≠y.at_/\x.seq<y.seq
def ab4(S:Int)(l:List Kp):oz S l=true↔∀i (h:i<l.length),dn l[i].obj=true/\(5<=l[i].at_/\l[i].at_<=19)/\(∀y∈l.take i,¬y.at_=l[i].at_)/\kg l i<l[i].seq/\l[i].seq<S:=by
  unfold oz;rw[eZ];constructor
  · intro H i h
    have hm:(l[i],i)∈l.zipIdx:=by
      have:(l.zipIdx)[i]'(by simpa using h)=(l[i],i):=by simp
      rw[<-this];exact cI _
    have:=H _ hm
    simp only[ow,aq,bn,eZ] at this
    exact⟨this.1.1.1.1,this.1.1.1.2,this.1.1.2,this.1.2,this.2⟩
  · intro H x hx
    obtain⟨i,hi,rfl⟩:=nT hx
    have hl:i<l.length:=by simpa using hi
    have:=H i hl
    simp only[List.getElem_zipIdx,ow,aq,bn,eZ,mI]
    exact⟨⟨⟨⟨this.1,this.2.1⟩,this.2.2.1⟩,this.2.2.2.1⟩,this.2.2.2.2⟩
def Fi{S:Int}{l:List Kp}:oz S l=true↔yG S l:=by
  rw[ab4];constructor
  · intro H
    have up:∀j (hj:j<l.length) i (hi:i<j),l[i].seq<l[j].seq:=by
      intro j;induction j with
      |zero=>intro hj i hi;omega
      |succ j ih=>
        intro hj i hi;have h1:=(H (j+1) hj).2.2.2.1;rw[Bf l j (by omega)] at h1;rcases gW i j with h|h;· have:=ih (by omega) i h;omega
        · have:i=j:=by omega
          subst this;exact h1
    refine⟨λx hx=>?_,?_⟩
    · obtain⟨i,hi,rfl⟩:=nT hx
      have h:=H i hi
      refine⟨h.1,h.2.1,?_,h.2.2.2.2⟩
      cases i with
      |zero=>have:=h.2.2.2.1;simp[kg] at this;omega
      |succ i=>
        have h1:=up (i+1) hi 0 (by omega)
        have h2:=(H 0 (by omega)).2.2.2.1
        simp[kg] at h2
        omega
    · rw[nO]
      intro i j hi hj hij
      refine⟨λe=>?_,up j hj i hij⟩
      refine(H j hj).2.2.1 l[i] ?_ e
      exact Tz.2 ⟨i,by omega,rfl⟩
  · rintro ⟨hk,hp⟩ i h
    rw[nO] at hp
    have h1:=hk _ (cI h)
    refine⟨h1.1,h1.2.1,λy hy e=>?_,?_,h1.2.2.2⟩
    · obtain⟨j,hj,rfl⟩:=Tz.1 hy
      exact(hp j i (by omega) h (by omega)).1 e
    · cases i with
      |zero=>simp[kg];omega
      |succ i=>rw[Bf l i (by omega)];exact(hp i (i+1) (by omega) h (by omega)).2
end M
set_option linter.unusedVariables false
set_option linter.unusedSimpArgs false
namespace M
open Go
def aeG{n:Nat}{P:Program}{row:String}{args:Array Value}{w:World}{R:Value->World->Prop}{l:Nat}(h:Rows P row args w R):RowsIn (Fence.wide.inRound l) n P row args w R:=
  λc cs _=>let ⟨v,w',r,s⟩:=h c cs;⟨v,w',r,stepsIn_wide.2 s⟩
def ah1{P:Program}{ops:Array Oper}{Q Q':Exit->Act->World->Prop}{i:Nat}{K K':Act->World->Prop}{a:Act}{w:World}{l n:Nat}
    (hnd:∀o,ops[i]?=some o->∀c,o.op≠.defer c)(hQ:∀c a w,¬Q (.panic c) a w)(hlo:¬LetsOut Q)(hK:∀a w,K a w->K' a w)
    (h:wpOp P ops Q i K a w):wpOpIn (Fence.wide.inRound l) n P ops Q' i K' a w:=by
  unfold wpOp at h;unfold wpOpIn;cases ho:ops[i]? with
  |none=>simp only[ho] at h⊢;exact hK _ _ h
  |some o=>
    simp only[ho] at h⊢;split
    · rename_i hw
      rw[az hw] at h
      rcases h with h|h
      · refine⟨λ_ _=>trivial,?_⟩
        rw[Oper.semAt_eq _ _ _ (hnd o ho)]
        unfold Oper.wp at h
        generalize (execOp a.eval o).run P w=r at h⊢
        match r,h with
        |.ok (.value u) w',h=>exact hK _ _ h
        |.ok .skip w',h=>exact hK _ _ h
        |.ok (.defer d) w',h=>exact hK _ _ h
        |.ok (.enter f args) w',h=>
          refine⟨λhd=>(by cases hd),CallsIn.inRound l (callsIn_wide.2 (Calls.mono h λe w'' he=>?_))⟩
          match e,he with
          |.returned u,he=>exact hK _ _ he
          |.panicked c,he=>exact(hQ _ _ _ he).elim
          |.outgrown,he=>exact(hlo he).elim
        |.ok (.row row args) w',h=>exact⟨λhd=>(by cases hd),RowsIn.mono (aeG h) λv w'' he=>hK _ _ he⟩
        |.halt (.panic u) w',h=>exact(hQ _ _ _ h).elim
      · exact(hlo h.2).elim
    · rename_i hw
      rw[aC hw] at h
      exact⟨λ_ _=>trivial,hK _ _ h⟩
def Tl{P:Program}{ops:Array Oper}{Q Q':Exit->Act->World->Prop}{l n:Nat}
    (hnd:∀(i:Nat) (o:Oper),ops[i]?=some o->∀c,o.op≠.defer c)(hQ:∀c a w,¬Q (.panic c) a w)(hlo:¬LetsOut Q)(hN:∀a w,Q .normal a w->Q' .normal a w):
    ∀{fuel:Nat} {listed:Array Bool} {a:Act} {w:World},wpAny P .any ops Q fuel listed a w->wpAnyIn (Fence.wide.inRound l) n P .any ops Q' fuel listed a w
  |0,_,_,_,h=>⟨h.1,hN _ _ h.2⟩
  |fuel+1,_,_,_,h=>⟨λhr=>hN _ _ (h.1 hr),λi hi=>ah1 (hnd i) hQ hlo (λ_ _ h=>Tl hnd hQ hlo hN h) (h.2 i hi)⟩
def atEnd(K:Act->World->Prop):Exit->Act->World->Prop
  |.normal,a,w=>K a w
  |_,_,_=>False
def aep{P:Program}{ops:Array Oper}{Q:Exit->Act->World->Prop}{S:World->Prop}{l n id:Nat}{a:Act}{w:World}(hm:P.follows .mixedOrders=true)
    (hnd:(ops.all λo=>match o.op with|.defer _=>false|_=>true)=true)
    {N:Nat}(hN:ops.size=N)(h:wpAnyH P .any ops (atEnd λa w=>Q .normal a w) S N (Array.replicate N false) a w.drew):(Code.region id ops true).wpIn (Fence.wide.inRound l) n P Q a w:=by subst hN;refine wpIn_region_any hm ?_;refine Tl (Q:=atEnd λa w=>Q .normal a w) (Q':=Q) (w:=w.drew) (λi o ho c hc=>?_) (λ_ _ _ h=>h) (λ⟨_,_,h⟩=>h) (λ_ _ h=>h) (wpAny_of_held _ _ _ _ h);have:=Array.all_eq_true_iff_forall_mem.1 hnd o (Array.mem_of_getElem? ho);rw[hc] at this;cases this
def aV{P:Program}{ops:Array Oper}{Q:Exit->Act->World->Prop}{S:World->Prop}{md:Region.Mode}{i d:Nat}{oi:Oper}{v:Value}{fuel:Nat}{listed aT:Array Bool}{tm:Array Value}{df:List Deferred}{w:World}(hi:ops[i]?=some oi)
    (hs:Region.noSelect ops=true)(hf:Region.free md ops listed i=true)(hr:(Region.ready md ops listed).contains i=true)
    (hQ:∀c a w,Q (.panic c) (a.put oi.dst v) w->Q (.panic c) a w)(hd:oi.dst=some d)(hl:listed.setIfInBounds i true=aT)(hS:S w)(hy:YieldsIf P ops S oi v {tmps:=tm,defers:=df})
    (h:wpAnyH P md ops Q S fuel aT {tmps:=tm.setIfInBounds d v,defers:=df} w):wpAnyH P md ops Q S (fuel+1) listed {tmps:=tm,defers:=df} w:=by refine wpAnyH_take hi hs hf hr hQ hy hS ?_;rw[hd,hl];exact h
end M
set_option linter.unusedVariables false
set_option linter.unusedSimpArgs false
namespace Go.Proofs
structure cR where
  p:ByteArray
  a1:Option Addr
  l1:Nat
  c1:Nat
  a2:Option Addr
  l2:Nat
  c2:Nat
  s:Int
  a3:Option Addr
  l3:Nat
  c3:Nat
  b:ByteArray
  t:Int
  k:Int
  q:Int
def cR.v(e:cR):Nat->Value
  |0=>.string e.p
  |1=>.slice e.a1 e.l1 e.c1
  |2=>.slice e.a2 e.l2 e.c2
  |3=>.int .i64 e.s
  |4=>.slice e.a3 e.l3 e.c3
  |5=>.string e.b
  |6=>.int .i64 e.t
  |7=>.int .i64 e.k
  |_=>.int .i64 e.q
def cR.ob(e:cR):Array Value:= #[.string e.p,.slice e.a1 e.l1 e.c1,.slice e.a2 e.l2 e.c2,.int .i64 e.s,.slice e.a3 e.l3 e.c3,.string e.b,.int .i64 e.t]
def cR.kp(e:cR):Array Value:= #[.string e.p,.slice e.a1 e.l1 e.c1,.slice e.a2 e.l2 e.c2,.int .i64 e.s,.slice e.a3 e.l3 e.c3,.string e.b,.int .i64 e.t,.int .i64 e.k,.int .i64 e.q]
def cR.z:cR:=⟨⟨#[]⟩,none,0,0,none,0,0,0,none,0,0,⟨#[]⟩,0,0,0⟩
def vJ:Array Value:= #[.string ⟨#[]⟩,.slice none 0 0,.slice none 0 0,.int .i64 0,.slice none 0 0,.string ⟨#[]⟩,.int .i64 0]
end Go.Proofs
namespace M
open Go Go.RowKit Go.Proofs
def Vj[Bs]{P:Program}{f:FuncId}{xs:List X}{r:X}
    (h:∀w zl zb cs,cs.map C.er=xs->mN w zl zb cs->o7 w zl zb->Calls P f (cs.map C.val).toArray w λe w'=>∃c:C,e=.returned c.val/\c.er=r/\Below w.heap.size w w'/\mO w w' c):
    AC P f xs λr' ps=>r'=r/\ps=xs.map λ_=>.dead:=by
  intro w zl zb cs e hA je;refine(h w zl zb cs e hA je).mono λe' w' ⟨c,he,hc,hb,c1,c2,c3⟩=>?_;have zP:Ext (λb k=>∃x∈cs,x.fp b k) w w':=⟨hb.os,hb.tape,hb.output,hb.size,λb hl=>.inl (hb.block b hl)⟩;refine⟨c,cs.map λx=>.dead x.val,zl,⟨he,by rw[cK];rfl,zP,⟨λx hx'=>?_,λx hx'=>?_,λx hx' b k hf=>?_,λb k hz=>jJ (hA.cC b k (hz.imp id λh=>h.elim)) hb.size,?_⟩,λx hx' b k hf=>?_,λ_ _ h=>h,λ_ _ h=>.inl h⟩,hc,?_⟩
  · rcases cu.1 hx' with rfl|hx'
    · exact c1 _
    · obtain⟨y,_,rfl⟩:=aU.1 hx';trivial
  · rcases cu.1 hx' with rfl|hx'
    · exact c2
    · obtain⟨y,_,rfl⟩:=aU.1 hx';trivial
  · rcases cu.1 hx' with rfl|hx'
    · have h1:=c3 b k hf
      exact⟨λhz=>by have:=hA.cC b k (.inl hz);omega,λhz=>hz⟩
    · obtain⟨y,_,rfl⟩:=aU.1 hx';exact hf.elim
  · refine eM.2 ⟨λx hx b k hf hf'=>?_,?_⟩
    · obtain⟨y,_,rfl⟩:=aU.1 hx;exact hf'
    · refine nO.2 λi j hi hj _ b k hf=>?_
      obtain⟨y,_,hy⟩:=aU.1 (cI hi)
      rw[<-hy] at hf
      exact hf.elim
  · rcases cu.1 hx' with rfl|hx'
    · exact .inr (c3 b k hf)
    · obtain⟨y,_,rfl⟩:=aU.1 hx';exact hf.elim
  · rw[<-e]
    simp[cK,HE,C.er]
def aeC{w w':World}{Z Z':Md->Nat->Nat->Prop}{B sz len cap:Nat}{A:Option Ad}{e:Nat->Nat->C}(hs:∀i j,i<len->j<sz->∃s,e i j=.str s)
    (h:(C.row .own sz A len cap e).ok w Z)(hB:∀b k,(C.row .own sz A len cap e).fp b k->B<=b)
    (hk:∀b arr t fz,B<=b->w.heap[b]?=some (.cells arr t fz)->w'.heap[b]?=some (.cells arr t fz)):(C.row .own sz A len cap e).ok w' Z':=by
  obtain⟨h1,h2,h3,h4,h5⟩:=h;have hA:∀g o,A=some (g,o,none)->B<=g:=λg o e=>hB g 0 ⟨rfl,.inl ⟨o,e⟩⟩;refine⟨h1,λi j hi hj=>?_,λi j hi hj=>?_,λ_=>?_,h5⟩
  · obtain⟨g,o,e1,e2,e3⟩:=h2 i j hi hj
    refine⟨g,o,e1,?_,λhm=>(hm rfl).elim⟩
    unfold World.cell? at e2⊢
    simp only at e2⊢
    cases hg:w.heap[g]? with
    |none=>rw[hg] at e2;simp at e2
    |some ob=>
      cases ob with
      |cells arr t fz=>rw[hk g arr t fz (hA g o e1) hg];rw[hg] at e2;exact e2
      |_=>rw[hg] at e2;simp at e2
  · obtain⟨a1,a2,a3,a4⟩:=h3 i j hi hj
    obtain⟨s,hs⟩:=hs i j hi hj
    refine⟨a1,a2,a3,?_⟩
    rw[hs] at a4⊢
    exact a4
  · rcases h4 rfl with h4|⟨g,o,arr,t,fz,e1,e2,e3,e4⟩
    · exact .inl h4
    · refine .inr ⟨g,o,arr,t,fz,e1,hk g arr t fz (hA g o e1) e2,e3,λk k1 k2=>?_⟩
      have:=e4 k k1 k2
      unfold World.frozen? at this⊢
      simp only at this⊢
      rw[e2] at this
      rw[hk g arr t fz (hA g o e1) e2]
      exact this
def DA{c:C}{xs:List X}(h:c.er=.agg xs):∃f,c=.agg xs.length f/\∀j x,xs[j]?=some x->(f j).er=x:=by
  cases c with
  |agg n f=>
    simp only[C.er,X.agg.injEq] at h;have hn:n=xs.length:=by rw[<-h];simp
    subst hn;refine⟨f,rfl,λj x hj=>?_⟩;obtain⟨hl,_⟩:=aN.1 hj;rw[<-h] at hj;simp[hl] at hj;exact hj
  |_=>simp[C.er] at h
def Xx{c:C}{m:Md}{xs:List X}(h:c.er=.ptr m xs):∃g o f,c=.ptr m g o xs.length f/\∀j x,xs[j]?=some x->(f j).er=x:=by
  cases c with
  |ptr m' g o n f=>
    simp only[C.er,X.ptr.injEq] at h;obtain⟨rfl,h⟩:=h;have hn:n=xs.length:=by rw[<-h];simp
    subst hn;refine⟨g,o,f,rfl,λj x hj=>?_⟩;obtain⟨hl,_⟩:=aN.1 hj;rw[<-h] at hj;simp[hl] at hj;exact hj
  |_=>simp[C.er] at h
def aeD{sz len:Nat}{e:Nat->Nat->C}{rows:List (List X)}(hl:len=rows.length)(h:∀i,i<len->rows[i]?=some ((List.range sz).map λj=>(e i j).er))(hr:∀r∈rows,∀x∈r,∃s,x=.str s):∀i j,i<len->j<sz->∃s,e i j=.str s:=by intro i j hi hj;have h1:=h i hi;obtain⟨s,hs⟩:=hr _ (lM h1) (e i j).er (aU.2 ⟨j,nN.2 hj,rfl⟩);exact⟨s,kX hs⟩
def Sj(l:List ag):∀r∈l.map eS,∀x∈r,∃s,x=.str s:=by intro r hr x hx;obtain⟨s,_,rfl⟩:=aU.1 hr;simp at hx;exact⟨_,hx⟩
def aeF(l:List aE):∀r∈l.map aK,∀x∈r,∃s,x=.str s:=by intro r hr x hx;obtain⟨s,_,rfl⟩:=aU.1 hr;simp at hx;rcases hx with rfl|rfl<;>exact⟨_,rfl⟩
def LZ{w w':World}{Z Z':Md->Nat->Nat->Prop}{B sz:Nat}{c:C}{rows:List (List X)}(hr:∀r∈rows,∀x∈r,∃s,x=.str s)(h:c.er=.row .own sz rows)(hok:c.ok w Z)(hB:∀b k,c.fp b k->B<=b)
    (hk:∀b arr t fz,B<=b->w.heap[b]?=some (.cells arr t fz)->w'.heap[b]?=some (.cells arr t fz)):c.ok w' Z':=by obtain⟨A,len,cap,e,rfl,hlen,hrow⟩:=vI h;exact aeC (aeD hlen hrow hr) hok hB hk
def ac2{w w':World}{Z Z':Md->Nat->Nat->Prop}{B:Nat}{c:C}{o:Ob}(h:c.er=.agg (aS .own o))(hok:c.ok w Z)(hB:∀b k,c.fp b k->B<=b)
    (hk:∀b arr t fz,B<=b->w.heap[b]?=some (.cells arr t fz)->w'.heap[b]?=some (.cells arr t fz)):c.ok w' Z':=by
  obtain⟨f,rfl,hf⟩:=DA h;obtain⟨h1,h2⟩:=hok;have cj:∀j,j<7->∀b k,(f j).fp b k->B<=b:=λj hj b k hh=>hB b k ⟨j,hj,hh⟩;refine⟨λj hj=>⟨(h1 j hj).1,?_⟩,h2⟩;have Qo:j<7:=hj;have ho:=(h1 j hj).2;have hb:=cj j Qo;have e0:=hf 0 _ rfl;have e1:=hf 1 _ rfl;have e2:=hf 2 _ rfl;have e3:=hf 3 _ rfl;have e4:=hf 4 _ rfl;have e5:=hf 5 _ rfl;have e6:=hf 6 _ rfl;match j,Qo with
  |0,_=>rw[kX e0] at ho⊢;exact ho
  |1,_=>exact LZ (Sj _) e1 ho hb hk
  |2,_=>exact LZ (Sj _) e2 ho hb hk
  |3,_=>rw[pF e3];trivial
  |4,_=>exact LZ (aeF _) e4 ho hb hk
  |5,_=>rw[kX e5] at ho⊢;exact ho
  |6,_=>rw[pF e6];trivial
def sj{c:C}{m:Md}{z:Nat}{rows:List (List X)}(h:c.er=.row m z rows):∃A len cap,c.val=.slice A len cap:=by obtain⟨A,len,cap,e,rfl,_,_⟩:=vI h;exact⟨_,_,_,rfl⟩
def Xv{f:Nat->C}{k:Kp}{m:Md}(h:∀j x,(aM m k)[j]?=some x->(f j).er=x):∃x:cR,(∀j,j<9->(f j).val=x.v j)/\x.p=⟨k.obj.path.toArray⟩:=by
  obtain⟨A1,l1,c1,h1⟩:=sj (h 1 _ rfl);obtain⟨A2,l2,c2,h2⟩:=sj (h 2 _ rfl);obtain⟨A4,l4,c4,h4⟩:=sj (h 4 _ rfl);refine⟨⟨⟨k.obj.path.toArray⟩,A1,l1,c1,A2,l2,c2,k.obj.resp.status,A4,l4,c4,⟨k.obj.resp.body.toArray⟩,k.obj.t,k.at_,k.seq⟩,λj hj=>?_,rfl⟩;match j,hj with
  |0,_=>rw[kX (h 0 _ rfl)];rfl
  |1,_=>exact h1
  |2,_=>exact h2
  |3,_=>rw[pF (h 3 _ rfl)];rfl
  |4,_=>exact h4
  |5,_=>rw[kX (h 5 _ rfl)];rfl
  |6,_=>rw[pF (h 6 _ rfl)];rfl
  |7,_=>rw[pF (h 7 _ rfl)];rfl
  |8,_=>rw[pF (h 8 _ rfl)];rfl
def Vx{W:World}{zl zb:Nat->Nat->Prop}{l:List C}(h:∀x∈l,x.ok W (Zf zl zb)/\x.bare/\∀b k,¬x.fp b k)(hz:∀b k,zl b k\/zb b k->b<W.heap.size):mN W zl zb l:=
  ⟨λx hx=>(h x hx).1,λx hx=>(h x hx).2.1,λx hx b k hf=>((h x hx).2.2 b k hf).elim,hz,nO.2 λi j hi hj _ b k hf=>((h _ (cI hi)).2.2 b k hf).elim⟩
def I7[Bs]{w W:World}{zl zb:Nat->Nat->Prop}(h:o7 w zl zb)(hb:Below w.heap.size w W):o7 W zl zb:=λb hb0=>by
  obtain⟨h1,h2⟩:=h b hb0
  have hlt:b<w.heap.size:=by
    rcases gW b w.heap.size with h'|h';· exact h'
    · rw[lP h'] at h1
      have:=CQ hb0
      rw[<-h1] at this
      cases this
  exact⟨(hb.block b hlt).trans h1,h2⟩
def KB{w W:World}{zl zb:Nat->Nat->Prop}(hz:∀b k,zl b k\/zb b k->b<w.heap.size)(hb:Below w.heap.size w W){c:C}(h:c.ok w (Zf zl zb)):c.ok W (Zf zl zb):=
  C.fk (S:=λ_ _=>False) (⟨hb.os,hb.tape,hb.output,hb.size,λb hl=>.inl (hb.block b hl)⟩:Ext (λ_ _=>False) w W) (λ_ _ _ _ hs=>hs) c (λ_ _ _ hs=>hs) h
def Iu[Bs]{P:Program}{f:FuncId}{xs:List X}{r0:X}(hac:AC P f xs λr _=>r=r0){W:World}{zl zb:Nat->Nat->Prop}{cs:List C}(he:cs.map C.er=xs)(hl:∀x∈cs,x.ok W (Zf zl zb)/\x.bare/\∀b k,¬x.fp b k)(hz:∀b k,zl b k\/zb b k->b<W.heap.size)(hg:o7 W zl zb):
    Calls P f (cs.map C.val).toArray W λe w'=>∃r:C,e=.returned r.val/\r.er=r0/\Below W.heap.size W w'/\(∃Z,r.ok w' Z)/\r.bare/\∀b k,r.fp b k->W.heap.size<=b:=
  (hac W zl zb cs he (Vx hl hz) hg).mono λe w' ⟨r,ps,aD,hD,hr⟩=>
    ⟨r,hD.ends,hr,(hD.ext.mono (S':=λ_ _=>False) λb k ⟨x,hx,hf⟩ _=>(hl x hx).2.2 b k hf).below,⟨_,hD.all.ok _ (bE ..)⟩,hD.all.bare _ (bE ..),λb k hf=>by
      rcases hD.dom r (bE ..) b k hf with ⟨y,hy,hf⟩|h;· exact((hl y hy).2.2 b k hf).elim
      · exact h⟩
def ac1{c:C}{m:Md}{o:Ob}(h:c.er=.agg (aS m o)):∃O:cR,c.val=.agg O.ob:=by obtain⟨f,rfl,hf⟩:=DA h;obtain⟨A1,l1,c1,h1⟩:=sj (hf 1 _ rfl);obtain⟨A2,l2,c2,h2⟩:=sj (hf 2 _ rfl);obtain⟨A4,l4,c4,h4⟩:=sj (hf 4 _ rfl);refine⟨⟨⟨o.path.toArray⟩,A1,l1,c1,A2,l2,c2,o.resp.status,A4,l4,c4,⟨o.resp.body.toArray⟩,o.t,0,0⟩,?_⟩;have e0:=kX (hf 0 _ rfl);have e3:=pF (hf 3 _ rfl);have e5:=kX (hf 5 _ rfl);have e6:=pF (hf 6 _ rfl);simp[C.val,cR.ob,mH,h1,h2,h4,e0,e3,e5,e6]
def Ph{α:Type}{p:α->Bool}{l:List α}{i:Nat}{hi:i<l.length}(h:p l[i]=true)(h2:∀j (hj:j<l.length),i<j->p l[j]=false):l.reverse.find? p=some l[i]:=by
  have e:l=l.take i++l[i]::l.drop (i+1):=by rw[<-qM hi,MC]
  have hd:∀x∈(l.drop (i+1)).reverse,¬p x=true:=by intro x hx;obtain⟨j,hj,rfl⟩:=nT (Ht.1 hx);rw[List.getElem_drop];rw[sX] at hj;simp[h2 (i+1+j) (by omega) (by omega)]
  conv=>lhs;rw[e]
  rw[Hv,MA,nS,List.find?_append,MU.2 hd];simp[h]
def zO:Ob:=⟨[],[],[],⟨0,[],[]⟩,0⟩
def vN(pS:List ag->List ag->List aE->Bool)(pH:List Bn->Ob->Bool)(s:Sh)(q:Rq):Option Ob:=
  (s.ai.reverse.find? λk=>decide (k.obj.path=q.path) && pS k.obj.names k.obj.values q.fields && !pH s.aF k.obj).map λk=>k.obj
def vM(pS:List ag->List ag->List aE->Bool)(pH:List Bn->Ob->Bool)(s:Sh)(q:Rq):X:=.ak [.agg (aS .own ((vN pS pH s q).getD zO)),.bool (vN pS pH s q).isSome]
open Classical in
noncomputable def zq(pS:List ag->List ag->List aE->Bool)(pH:List Bn->Ob->Bool)(xs:List X):Option X:=
  if h:∃r,∃s q,xs=[.ptr .af (aO .af s),.agg (dw .af q)]/\bC s<=1073741824/\eV q<=1073741824/\r=vM pS pH s q then some h.choose else none
def zF(j:Nat):C:=if j=0\/j=5 then .str ⟨#[]⟩ else if j=3\/j=6 then .int .i64 0 else .row .own (if j=4 then 2 else 1) none 0 0 λ_ _=>.dead undef
def zC:C:=.agg 7 zF
def aio:zC.er=.agg (aS .own zO):=by simp[zC,zF,C.er,mH,zO]
def aiq:zC.val=.agg vJ:=by simp[zC,zF,C.val,mH,vJ]
def Tv(j b k:Nat):¬(zF j).fp b k:=by
  unfold zF;split;· exact λh=>h
  · split
    · exact λh=>h
    · rintro ⟨_,⟨o,h⟩|⟨i,_,hi,_⟩⟩
      · cases h
      · omega
def aip{w w':World}:mO w w' zC:=by
  refine⟨λZ=>⟨λj hj=>?_,λj hj b k hf=>(Tv j b k hf).elim⟩,λj hj=>?_,λb k ⟨j,hj,hf⟩=>(Tv j b k hf).elim⟩
  · unfold zF
    split
    · exact⟨trivial,by show (0:Nat)<=_;omega⟩
    · split
      · exact⟨trivial,trivial⟩
      · exact⟨trivial,dz _,λi j hi=>by omega,λi j hi=>by omega,λ_=>.inl ⟨rfl,rfl⟩,λi j hi=>by omega⟩
  · unfold zF
    split
    · trivial
    · split<;>trivial
def PB{w w':World}{c:C}{b:Bool}(h:mO w w' c)(hn:c.fY):mO w w' (uW [c,.bool b]):=by
  refine⟨λZ=>⟨λj hj=>?_,λj hj x k hf j' hj' hne hf'=>?_⟩,λj hj=>?_,λx k ⟨j,hj,hf⟩=>?_⟩
  · match j,hj with
    |0,_=>exact⟨hn,h.1 Z⟩
    |1,_=>exact⟨trivial,trivial⟩
  · match j,hj,j',hj' with
    |0,_,1,_=>exact hf'
    |1,_,_,_=>exact hf
    |0,_,0,_=>exact hne rfl
  · match j,hj with
    |0,_=>exact h.2.1
    |1,_=>trivial
  · match j,hj with
    |0,_=>exact h.2.2 x k hf
    |1,_=>exact hf.elim
def acV[Bs]{P:Program}{f0:FuncId}{g:List X->Option X}
    (h:∀xs r,g xs=some r->∀w zl zb cs,cs.map C.er=xs->mN w zl zb cs->o7 w zl zb->Calls P f0 (cs.map C.val).toArray w λe w'=>∃c:C,e=.returned c.val/\c.er=r/\Below w.heap.size w w'/\mO w w' c):(fN f0 g).Sound P:=λf xs o e=>by
  unfold fN at e;split at e
  · rename_i hf
    subst hf
    split at e
    · rename_i r hr
      cases e
      exact Vj (h xs r hr)
    · cases e
  · cases e
def ae2{c:C}(h:c.cQ):c.bare:=by cases c<;>first|trivial|exact h.elim
def XT{c:C}(h:c.cQ)(hf:c.fits .af)(b k:Nat):¬c.fp b k:=by
  cases c with
  |row m sz A len cap e=>rintro ⟨rfl,_⟩;rcases hf with h|h|⟨_,h⟩<;>cases h
  |ptr=>exact h.elim
  |agg=>exact h.elim
  |ak=>exact h.elim
  |_=>exact λh=>h
def NA{c:C}{z:Nat}{rows:List (List X)}(h:c.er=.row .af z rows)(b k:Nat):¬c.fp b k:=by obtain⟨A,len,cap,e,rfl,_,_⟩:=vI h;rintro ⟨h,_⟩;cases h
def Sg{c:C}{m:Md}{z:Nat}{rows:List (List X)}(h:c.er=.row m z rows):c.bare:=by obtain⟨A,len,cap,e,rfl,_,_⟩:=vI h;trivial
def XS[Bs]{P:Program}{f0 fs fh fc:FuncId}{pS:List ag->List ag->List aE->Bool}{pH:List Bn->Ob->Bool}
    (hS:∀(ns vs:List ag) (fl:List aE),ns.length<=1073741824->vs.length<=1073741824->fl.length<=1073741824->AC P fs [.row .af 1 (ns.map eS),.row .af 1 (vs.map eS),.row .af 2 (fl.map aK)] λr _=>r=.bool (pS ns vs fl))
    (hH:∀(l:List Bn) (o:Ob),wL aW l<=1073741824->cr o<=1073741824->AC P fh [.row .af 4 (l.map bK),.agg (aS .af o)] λr _=>r=.bool (pH l o))
    (hC:∀(o:Ob),cr o<=1073741824->AC P fc [.agg (aS .af o)] λr _=>r=.agg (aS .own o))
    (hw:∀(g o:Nat) (A Ab Aq:Option Addr) (len cap lb cb lq cq:Nat) (qm:Int) (qs qb:ByteArray) (E:Nat->cR) (pS pH:Nat->Bool) (R:Nat->cR->World->World->Prop) (w:World),
      len<=1073741824->g<w.heap.size->w.cell? ⟨g,o+2,none⟩=some (.slice A len cap)->w.cell? ⟨g,o+3,none⟩=some (.slice Ab lb cb)->
      (∀i j,i<len->j<9->∃g o,A=some ⟨g,o,none⟩/\g<w.heap.size/\w.cell? ⟨g,o+i*9+j,none⟩=some ((E i).v j))->
      (∀i,i<len->∀W,Below w.heap.size w W->Calls P fs #[.slice (E i).a1 (E i).l1 (E i).c1,.slice (E i).a2 (E i).l2 (E i).c2,.slice Aq lq cq] W λe W'=>e=.returned (.bool (pS i))/\Below W.heap.size W W')->
      (∀i,i<len->∀W,Below w.heap.size w W->Calls P fh #[.slice Ab lb cb,.agg (E i).ob] W λe W'=>e=.returned (.bool (pH i))/\Below W.heap.size W W')->
      (∀i,i<len->∀W,Below w.heap.size w W->Calls P fc #[.agg (E i).ob] W λe W'=>∃O:cR,e=.returned (.agg O.ob)/\Below W.heap.size W W'/\R i O W W')->
      Calls P f0 #[.pointer (some ⟨g,o,none⟩),.agg #[.int .i64 qm,.string qs,.slice Aq lq cq,.string qb]] w λe W'=>Below w.heap.size w W'/\
        ((e=.returned (.tuple #[.agg vJ,.bool false])/\∀i,i<len->¬((E i).p=qs/\pS i=true/\pH i=false))\/
         (∃i O W1 W2,i<len/\e=.returned (.tuple #[.agg (cR.ob O),.bool true])/\((E i).p=qs/\pS i=true/\pH i=false)/\(∀i',i<i'->i'<len->¬((E i').p=qs/\pS i'=true/\pH i'=false))/\
            Below w.heap.size w W1/\R i O W1 W2/\∀b arr t fz,W1.heap.size<=b->W2.heap[b]?=some (.cells arr t fz)->W'.heap[b]?=some (.cells arr t fz)))):
    (fN f0 (zq pS pH)).Sound P:=
  acV λxs r hg w zl zb cs hx hA je=>by
    unfold zq at hg;split at hg
    · rename_i h
      obtain⟨s,q,hxs,iG,gv,hr⟩:=h.choose_spec
      cases hg
      rw[hr]
      rw[hxs] at hx
      obtain⟨c1,r1,rfl,h1,h2⟩:=map_cons hx
      obtain⟨c2,r2,rfl,h3,h4⟩:=map_cons h2
      obtain rfl:=map_nil h4
      obtain⟨g,o,f,rfl,hf⟩:=Xx h1
      obtain⟨fq,rfl,mZ⟩:=DA h3
      have ok1:=hA.ok _ (bE ..)
      have ok2:=hA.ok _ (cz _ (bE ..))
      have Eu:=hA.cC
      obtain⟨k1,k2,k3,k4⟩:=ok1
      obtain⟨q1,q2⟩:=ok2
      obtain⟨A,len,cap,e,ij,hlen,hrow⟩:=vI (hf 2 _ rfl)
      obtain⟨Ab,lb,cb,Qy⟩:=sj (hf 3 _ rfl)
      obtain⟨Aq,lq,cq,QA⟩:=sj (mZ 2 _ rfl)
      have hq0:=pF (mZ 0 _ rfl)
      have hq1:=kX (mZ 1 _ rfl)
      have hq3:=kX (mZ 3 _ rfl)
      have RB:=(k3 2 (by show 2<6;omega)).2.2
      rw[ij] at RB
      obtain⟨m1,m2,m3,m4,m5⟩:=RB
      have hlo:len=s.ai.length:=by rw[hlen];simp
      have dM:bC s=bU s.aG+wL bH s.ai+wL aW s.aF:=rfl
      have Er:eV q=q.path.length+wL aJ q.fields+q.body.length:=rfl
      have Jv:=bx (w:=bH) s.ai
      have oc:=bx (w:=aJ) q.fields
      have hent:∀i (hi:i<len),∀j x,(aM .af (s.ai[i]'(by omega)))[j]?=some x->(e i j).er=x:=by intro i hi j x hj;have h5:=hrow i hi;rw[cY,bZ (by omega)] at h5;simp only[cv,dF] at h5;rw[h5] at hj;obtain⟨hl,_⟩:=aN.1 hj;simp only[dO,sY] at hl;simp only[cY,qN hl,cv,dF] at hj;exact hj
      have hE:∀i (hi:i<len),∃x:cR,(∀j,j<9->(e i j).val=x.v j)/\x.p=⟨(s.ai[i]'(by omega)).obj.path.toArray⟩:=λi hi=>Xv (hent i hi)
      obtain⟨E,zG⟩:∃E:Nat->cR,∀i (hi:i<len),(∀j,j<9->(e i j).val=(E i).v j)/\(E i).p=⟨(s.ai[i]'(by omega)).obj.path.toArray⟩:=
        ⟨λi=>if h:i<len then (hE i h).choose else cR.z,λi hi=>by simp only[jM hi];exact(hE i hi).choose_spec⟩
      have vU:∀W,Below w.heap.size w W->∀i,i<len->∀j,j<9->(e i j).ok W (Zf zl zb)/\(e i j).bare/\∀b k,¬(e i j).fp b k:=λW hb i hi j hj=>
        ⟨KB Eu hb (m3 i j hi hj).2.2.2,ae2 (m3 i j hi hj).2.1,XT (m3 i j hi hj).2.1 (m3 i j hi hj).2.2.1⟩
      have JQ:∀W,Below w.heap.size w W->∀b k,zl b k\/zb b k->b<W.heap.size:=λW hb b k h=>jJ (Eu b k h) hb.size
      have hqf:∀W,Below w.heap.size w W->(fq 2).ok W (Zf zl zb)/\(fq 2).bare/\∀b k,¬(fq 2).fp b k:=λW hb=>⟨KB Eu hb (q1 2 (by show 2<4;omega)).2,Sg (mZ 2 _ rfl),NA (mZ 2 _ rfl)⟩
      have hbf:∀W,Below w.heap.size w W->(f 3).ok W (Zf zl zb)/\(f 3).bare/\∀b k,¬(f 3).fp b k:=λW hb=>⟨KB Eu hb (k3 3 (by show 3<6;omega)).2.2,Sg (hf 3 _ rfl),NA (hf 3 _ rfl)⟩
      have Ej:∀i (hi:i<len),(C.agg 7 (e i)).er=.agg (aS .af (s.ai[i]'(by omega)).obj)/\(C.agg 7 (e i)).val=.agg (E i).ob:=by
        intro i hi;obtain⟨v1,v2⟩:=zG i hi;have hn:=hent i hi;refine⟨?_,?_⟩
        · have e0:=hn 0 _ rfl
          have e1:=hn 1 _ rfl
          have e2:=hn 2 _ rfl
          have e3:=hn 3 _ rfl
          have e4:=hn 4 _ rfl
          have e5:=hn 5 _ rfl
          have e6:=hn 6 _ rfl
          simp only[C.er,mH,List.range_zero,kn,fD,aY,gi,e0,e1,e2,e3,e4,e5,e6]
          rfl
        · have u0:=v1 0 (by decide)
          have u1:=v1 1 (by decide)
          have u2:=v1 2 (by decide)
          have u3:=v1 3 (by decide)
          have u4:=v1 4 (by decide)
          have u5:=v1 5 (by decide)
          have u6:=v1 6 (by decide)
          simp only[C.val,mH,List.range_zero,kn,fD,aY,gi,u0,u1,u2,u3,u4,u5,u6,cR.v,cR.ob]
      have hal:∀W,Below w.heap.size w W->∀i,i<len->(C.agg 7 (e i)).ok W (Zf zl zb)/\(C.agg 7 (e i)).bare/\∀b k,¬(C.agg 7 (e i)).fp b k:=λW hb i hi=>
        ⟨⟨λj hj=>⟨(m3 i j hi (by omega)).1,(vU W hb i hi j (by omega)).1⟩,λj hj b k cj=>((vU W hb i hi j (by omega)).2.2 b k cj).elim⟩,λj hj=>(vU W hb i hi j (by omega)).2.1,λb k ⟨j,hj,cj⟩=>(vU W hb i hi j (by omega)).2.2 b k cj⟩
      have JM:∀i (hi:i<len),cr (s.ai[i]'(by omega)).obj<=1073741824:=λi hi=>by have:=sO (cI (show i<s.ai.length by omega));omega
      have key:=hw g o (A.map λq=>⟨q.1,q.2.1,q.2.2⟩) Ab Aq len cap lb cb lq cq q.method ⟨q.path.toArray⟩ ⟨q.body.toArray⟩ E
        (λi=>(s.ai[i]?).elim false λk=>pS k.obj.names k.obj.values q.fields) (λi=>(s.ai[i]?).elim false λk=>pH s.aF k.obj)
        (λi O W W'=>∃k,s.ai[i]?=some k/\∃c:C,c.er=.agg (aS .own k.obj)/\c.val=.agg O.ob/\(∃Z,c.ok W' Z)/\c.bare/\∀b k,c.fp b k->W.heap.size<=b)
        w (by omega) k2 ?k1 ?k2 ?k3 ?k4 ?k5 ?k6
      · have ha:([C.ptr .af g o (aO .af s).length f,C.agg (dw .af q).length fq].map C.val).toArray= #[.pointer (some ⟨g,o,none⟩),.agg #[.int .i64 q.method,.string ⟨q.path.toArray⟩,.slice Aq lq cq,.string ⟨q.body.toArray⟩]]:=by
          simp[C.val,mH,hq0,hq1,QA,hq3]
        rw[ha]
        have JG:∀i (hi:i<s.ai.length),((E i).p=⟨q.path.toArray⟩/\(s.ai[i]?.elim false λk=>pS k.obj.names k.obj.values q.fields)=true/\(s.ai[i]?.elim false λk=>pH s.aF k.obj)=false)↔(decide (s.ai[i].obj.path=q.path) && pS s.ai[i].obj.names s.ai[i].obj.values q.fields && !pH s.aF s.ai[i].obj)=true:=by
          intro i hi;rw[(zG i (by omega)).2,bZ hi];simp only[Option.elim_some,aq,bn,oU,MQ];constructor
          · rintro ⟨a1,a2,a3⟩
            exact⟨⟨by simpa using dm Array.toList a1,a2⟩,a3⟩
          · rintro ⟨⟨a1,a2⟩,a3⟩
            exact⟨by rw[a1],a2,a3⟩
        refine Calls.mono key λe' w' ⟨hb,hres⟩=>?_
        rcases hres with ⟨rfl,hno⟩|⟨i,O,W1,W2,hi,rfl,hp,Jy,hbW,⟨k,hk,c,h5,h6,⟨Z,h7⟩,h8,h9⟩,hst⟩
        · have hnone:vN pS pH s q=none:=by
            unfold vN;rw[MU.2];· rfl
            · intro k hk
              obtain⟨i,hi,rfl⟩:=nT (Ht.1 hk)
              exact λh=>hno i (by omega) ((JG i hi).2 h)
          refine⟨uW [zC,.bool false],?_,?_,hb,PB aip trivial⟩
          · simp[uW,C.val,mH,aiq]
          · unfold vM
            rw[hnone]
            simp[uW,C.er,mH,aio]
        · have hi2:i<s.ai.length:=by omega
          rw[bZ hi2] at hk
          cases hk
          have hsome:vN pS pH s q=some s.ai[i].obj:=by
            unfold vN;rw[Ph (hi:=hi2) ((JG i hi2).1 hp) (λj hj hij=>by have:=Jy j hij (by omega);rw[JG j hj] at this;simpa using this)]
            rfl
          have hfc:mO w w' c:=by refine⟨λZ'=>ac2 h5 h7 h9 hst,h8,λb k hf=>iT hbW.size (h9 b k hf)⟩
          refine⟨uW [c,.bool true],?_,?_,hb,PB hfc ?_⟩
          · simp[uW,C.val,mH,h6]
          · unfold vM
            rw[hsome]
            simp[uW,C.er,mH,h5]
          · obtain⟨fo,rfl,_⟩:=DA h5
            trivial
      case k1=>
        have:=(k1 2 (by show 2<6;omega)).1
        rw[ij] at this
        exact this
      case k2=>
        have:=(k1 3 (by show 3<6;omega)).1
        rw[Qy] at this
        exact this
      case k3=>
        intro i j hi hj
        obtain⟨g',o',e1,e2,_⟩:=m2 i j hi hj
        rw[(zG i hi).1 j hj] at e2
        refine⟨g',o',by rw[e1];rfl,?_,e2⟩
        rcases gW g' w.heap.size with h|h
        · exact h
        · simp[World.cell?,lP h] at e2
      case k4=>
        intro i hi W hb
        have ho:=JM i hi
        have fH:∀o:Ob,cr o=o.path.length+wL wS o.names+wL wS o.values+ct o.resp:=λ_=>rfl
        have:=fH (s.ai[i]'(by omega)).obj
        have n1:=bx (w:=wS) (s.ai[i]'(by omega)).obj.names
        have n2:=bx (w:=wS) (s.ai[i]'(by omega)).obj.values
        have hc:=Iu (hS (s.ai[i]'(by omega)).obj.names (s.ai[i]'(by omega)).obj.values q.fields (by omega) (by omega) (by omega)) (W:=W) (zl:=zl) (zb:=zb) (cs:=[e i 1,e i 2,fq 2]) (by
          simp only[aY,gi];rw[hent i hi 1 _ rfl,hent i hi 2 _ rfl,mZ 2 _ rfl]) (λx hx=>by
          simp only[cu,Hu,or_false] at hx;rcases hx with rfl|rfl|rfl;· exact vU W hb i hi 1 (by decide)
          · exact vU W hb i hi 2 (by decide)
          · exact hqf W hb) (JQ W hb) (I7 je hb)
        simp only[aY,gi,(zG i hi).1 1 (by decide),(zG i hi).1 2 (by decide),QA] at hc
        refine Calls.mono hc λe' w' ⟨r,h5,h6,h7,_⟩=>⟨?_,h7⟩
        rw[h5,O2 h6,bZ (show i<s.ai.length by omega)]
        rfl
      case k5=>
        intro i hi W hb
        have hc:=Iu (hH s.aF (s.ai[i]'(by omega)).obj (by omega) (JM i hi)) (W:=W) (zl:=zl) (zb:=zb) (cs:=[f 3,.agg 7 (e i)]) (by
          simp only[aY,gi];rw[(Ej i hi).1,hf 3 _ rfl]) (λx hx=>by
          simp only[cu,Hu,or_false] at hx;rcases hx with rfl|rfl;· exact hbf W hb
          · exact hal W hb i hi) (JQ W hb) (I7 je hb)
        simp only[aY,gi,(Ej i hi).2,Qy] at hc
        refine Calls.mono hc λe' w' ⟨r,h5,h6,h7,_⟩=>⟨?_,h7⟩
        rw[h5,O2 h6,bZ (show i<s.ai.length by omega)]
        rfl
      case k6=>
        intro i hi W hb
        have hc:=Iu (hC (s.ai[i]'(by omega)).obj (JM i hi)) (W:=W) (zl:=zl) (zb:=zb) (cs:=[.agg 7 (e i)]) (by
          simp only[aY,gi];rw[(Ej i hi).1]) (λx hx=>by
          simp only[cu,Hu,or_false] at hx;rcases hx with rfl;exact hal W hb i hi) (JQ W hb) (I7 je hb)
        simp only[aY,gi,(Ej i hi).2] at hc
        refine Calls.mono hc λe' w' ⟨r,h5,h6,h7,h8,h9,h10⟩=>?_
        obtain⟨O,hO⟩:=ac1 h6
        exact⟨O,by rw[h5,hO],h7,_,bZ (show i<s.ai.length by omega),r,h6,hO,h8,h9,h10⟩
    · cases hg
end M
set_option linter.unusedVariables false
set_option linter.unusedSimpArgs false
namespace M
open Go
def qa{α β:Type}{f:α->β}(hf:∀a b,f a=f b->a=b):∀{l l':List α},l.map f=l'.map f->l=l'
  |[],[],_=>rfl
  |[],_::_,h=>by cases h
  |_::_,[],h=>by cases h
  |a::l,b::l',h=>by simp only[aY,mK] at h;rw[hf _ _ h.1,qa hf h.2]
def IL(a b:ag)(h:eS a=eS b):a=b:=by simpa using h
def OO(a b:aE)(h:aK a=aK b):a=b:=by cases a;cases b;simpa using h
def Xu(a b:Wr)(h:eW a=eW b):a=b:=by cases a;cases b;simpa using h
def Xp(a b:Bn)(h:bK a=bK b):a=b:=by cases a;cases b;simpa using h
def Xr{m:Md}(a b:Rq)(h:dw m a=dw m b):a=b:=by obtain⟨a1,a2,a3,a4⟩:=a;obtain⟨b1,b2,b3,b4⟩:=b;simp only[dw,mK,X.int.injEq,X.str.injEq,X.row.injEq,MQ,sV,qJ] at h;obtain⟨h1,h2,h3,h4⟩:=h;rw[h1,qa OO h3,show a2=b2 by simpa using h2,show a4=b4 by simpa using h4]
def Xq{m:Md}(a b:Kp)(h:aM m a=aM m b):a=b:=by obtain⟨⟨a1,a2,a3,⟨a4,a5,a6⟩,a7⟩,a8,a9⟩:=a;obtain⟨⟨b1,b2,b3,⟨b4,b5,b6⟩,b7⟩,b8,b9⟩:=b;simp only[aM,mK,X.int.injEq,X.str.injEq,X.row.injEq,MQ,sV,qJ] at h;obtain⟨h1,h2,h3,h4,h5,h6,h7,h8,h9⟩:=h;rw[show a1=b1 by simpa using h1,qa IL h2,qa IL h3,h4,qa OO h5,show a6=b6 by simpa using h6,h7,h8,h9]
def Xs{m:Md}(a b:Sh)(h:aO m a=aO m b):a=b:=by obtain⟨⟨a1,a2⟩,a3,a4,a5,a6⟩:=a;obtain⟨⟨b1,b2⟩,b3,b4,b5,b6⟩:=b;simp only[aO,mK,X.int.injEq,X.row.injEq,sV,qJ] at h;obtain⟨h1,h2,h3,h4,h5,h6⟩:=h;rw[qa IL h1,qa Xu h2,qa Xq h3,qa Xp h4,h5,h6]
def XP(pS:List ag->List ag->List aE->Bool)(pH:List Bn->Ob->Bool)(s:Sh)(q:Rq)(hs:bC s<=1073741824)(hq:eV q<=1073741824):zq pS pH [.ptr .af (aO .af s),.agg (dw .af q)]=some (vM pS pH s q):=by unfold zq;have h:∃r,∃s' q',([.ptr .af (aO .af s),.agg (dw .af q)]:List X)=[.ptr .af (aO .af s'),.agg (dw .af q')]/\bC s'<=1073741824/\eV q'<=1073741824/\r=vM pS pH s' q':=⟨_,s,q,rfl,hs,hq,rfl⟩;rw[jM h];obtain⟨s',q',he,_,_,hr⟩:=h.choose_spec;rw[hr];simp only[mK,X.ptr.injEq,X.agg.injEq,sV,qJ] at he;rw[Xs _ _ he.1,Xr _ _ he.2]
end M
