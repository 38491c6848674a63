/- A machine of values for loaded Go functions, sound for the calculus of calls; part 3; no conditions. -/
import Derived.Test.YtcibpfbfblmedaaGreatDoorMb
import Derived.Sort.Grow
import Derived.Deep.Draws
import Derived.Lib.LaidTab
import Derived.MakeChecks
import Derived.Laws.BitsLemmas
import Derived.ChangeArms
import Derived.ChangeReads
import Derived.ChangeOld
import Derived.ChangeShapes
import Derived.SizedLaws
import Derived.RowKit
import Derived.Below
import Derived.Lib.ItoaNum
import Derived.Lib.TrimByte
import Derived.Lib.AtoiAllCases
import Derived.Lib.SplitLaws
import Derived.Lib.Join
import Derived.Lib.IndexMore
import Derived.HandedShaped
import Derived.Lib.Strings
import Derived.Lib.Slices
import Derived.Lib.Walk
import Derived.Stop.LaidErr
import Derived.RangeFuncNested
import Derived.RangeFuncCalls
import Derived.OrdersHeld
import Derived.OrdersIn
import Derived.Lib.SlicesCompact
set_option linter.defProp false
set_option linter.unusedSectionVars false
set_option linter.unusedVariables false
set_option linter.unusedSimpArgs false
set_option linter.unusedVariables false
set_option linter.unusedSimpArgs false
namespace M
open Go
section
variable {C C':cr}{ok:FuncId->Bool}
def ad8{C:cr}{d:Option Nat}{s s':ag}{f:FuncId}{xs:List X}(h:qU d s (C f xs)=some s'):∃o,C f xs=some o/\∀C':cr,C' f xs=some o->qU d s (C' f xs)=some s':=by
  cases ho:C f xs with
  |none=>rw[ho] at h;cases h
  |some o=>rw[ho] at h;exact⟨o,rfl,λC' h'=>by rw[h'];exact h⟩
def ad7{C:cr}{d:Option Nat}{as:List (AV×PM)}{back:yN}{s':ag}{f:FuncId}{xs:List X}(h:B0 d as back (C f xs)=some s'):∃o,C f xs=some o/\∀C':cr,C' f xs=some o->B0 d as back (C' f xs)=some s':=by
  cases ho:C f xs with
  |none=>rw[ho] at h;cases h
  |some o=>rw[ho] at h;exact⟨o,rfl,λC' h'=>by rw[h'];exact h⟩
def Nq{f:FuncId}{d:Option Nat}{as:List (AV×PM)}{fv:Option AV}{s s':ag}(h:rN C f d as fv s=some s'):
    ∃xs o,C f xs=some o/\∀C':cr,C' f xs=some o->rN C' f d as fv s=some s':=by
  unfold rN at h⊢;by_cases hb:X.bare.iP (bW as s).1=true
  · simp only[aq hb] at h⊢
    cases hm:dR as with
    |none=>
      simp only[hm] at h⊢
      by_cases hc:wg (bW as s).2 fv f=true
      · simp only[aq hc] at h⊢
        obtain⟨o,h1,h2⟩:=ad8 h
        exact⟨_,o,h1,h2⟩
      · simp only[az hc] at h;cases h
    |some xn=>
      obtain⟨x,n⟩:=xn
      simp only[hm] at h⊢
      unfold C8 at h⊢
      split at h
      · split at h
        · rename_i y back h1 h2
          simp only[h1,aq h2]
          obtain⟨o,h1,h2⟩:=ad7 h
          exact⟨_,o,h1,h2⟩
        · cases h
      · cases h
  · simp only[az hb] at h;cases h
def N3{o:cz}{s s':ag}(h:cL C ok o s=some s'):(∀C':cr,cL C' ok o s=some s')\/∃f xs r,C f xs=some r/\∀C':cr,C' f xs=some r->cL C' ok o s=some s':=by
  cases o with
  |call d f as=>obtain⟨xs,o,h1,h2⟩:=Nq (C:=C) h;exact .inr ⟨f,xs,o,h1,h2⟩
  |jq d x as=>
    simp only[cL] at h⊢;split at h
    · rename_i f caps hf
      split at h
      · rename_i hok
        obtain⟨xs,o,h1,h2⟩:=Nq (C:=C) h
        refine .inr ⟨f,xs,o,h1,λC' h'=>?_⟩
        simp only[aq hok]
        exact h2 C' h'
      · cases h
    · cases h
  |rM d f x as=>
    simp only[cL] at h⊢;split at h
    · rename_i cs h1
      split at h
      · rename_i h2
        simp only[aq h2]
        refine .inr ?_
        cases ho:C f (.agg (bY cs s).1::gi (bY cs s).2 .dead as (as.map λ_=>.dead)) with
        |none=>rw[ho] at h;cases h
        |some r=>rw[ho] at h;exact⟨f,_,r,ho,λC' h'=>by rw[h'];exact h⟩
      · cases h
    · cases h
  |_=>exact .inl λ_=>h
def NZ{g:G}{s s':ag}(h:eG C ok g s=some s'):(∀C':cr,eG C' ok g s=some s')\/∃f xs r,C f xs=some r/\∀C':cr,C' f xs=some r->eG C' ok g s=some s':=by
  obtain⟨gg,o⟩:=g;cases gg with
  |none=>exact N3 h
  |some tb=>
    obtain⟨t,b⟩:=tb;simp only[eG] at h⊢;split at h
    · rename_i v hv
      split at h
      · rename_i h1
        simp only[hv,aq h1]
        exact N3 h
      · rename_i h1
        simp only[hv,az h1]
        exact .inl λ_=>h
    · exact .inl λ_=>h
    · cases h
def cr.le(C C':cr):Prop:=∀f xs o,C f xs=some o->C' f xs=some o
def N1(hl:C.le C'){g:G}{s s':ag}(h:eG C ok g s=some s'):eG C' ok g s=some s':=by
  rcases NZ h with h|⟨f,xs,r,h1,h2⟩;· exact h _
  · exact h2 _ (hl _ _ _ h1)
def HM(hl:C.le C'):∀{l:List G} {s s':ag},jQ C ok l s=some s'->jQ C' ok l s=some s'
  |[],_,_,h=>h
  |g::l,s,s',h=>by
    simp only[jQ] at h⊢;cases h1:eG C ok g s with
    |none=>rw[h1] at h;cases h
    |some s1=>rw[h1] at h;rw[N1 hl h1];exact HM hl h
def wq(hl:C.le C'):∀{t:DT} {s s':ag},eD C ok t s=some s'->eD C' ok t s=some s'
  |.nil _,_,_,h=>h
  |.step _ g l,s,s',h=>by
    simp only[eD] at h⊢;cases h1:eG C ok g s with
    |none=>rw[h1] at h;cases h
    |some s1=>rw[h1] at h;rw[N1 hl h1];exact wq hl h
  |.alt a b,s,s',h=>by
    simp only[eD] at h⊢;unfold same at h;split at h
    · rename_i x y hx hy
      rw[wq hl hx,wq hl hy]
      exact h
    · cases h
  |.kp _ t,s,s',h=>wq (t:=t) hl h
def Gc{k k':ag->cI}{r r':cI}{o:Ex×ag}(h:fM k r=some o)(hr:∀x,r=some x->r'=some x)(hk:∀s,k s=some o->k' s=some o):fM k' r'=some o:=by
  unfold fM at h;split at h;· rw[hr _ rfl];exact hk _ h
  · rw[hr _ rfl];exact h
  · rw[hr _ rfl];exact h
  · cases h
def xF{f f':ag->cI}(hf:∀s o,f s=some o->f' s=some o):∀{n m:Nat} {s:ag} {o:Ex×ag},n<=m->iter f n s=some o->iter f' m s=some o
  |0,_,_,_,_,h=>by cases h
  |n+1,0,_,_,hn,_=>by omega
  |n+1,m+1,s,o,hn,h=>Gc h (hf s) λs' h'=>xF hf (by omega) h'
end
noncomputable def aX(f:ag->cI)(s:ag):cI:=by classical exact if h:∃o:Ex×ag,∃n,iter f n s=some o then some (Classical.choose h) else none
def BD{f:ag->cI}{s:ag}{o:Ex×ag}{n:Nat}(h:iter f n s=some o):aX f s=some o:=by have hh:∃o:Ex×ag,∃n,iter f n s=some o:=⟨o,n,h⟩;unfold aX;rw[oq hh];obtain⟨m,hm⟩:=CD hh;have h1:=xF (λ_ _ h=>h) (Nat.le_max_left m n) hm;have h2:=xF (λ_ _ h=>h) (Nat.le_max_right m n) h;rw[h1] at h2;exact h2
def Kj{f:ag->cI}{s:ag}{o:Ex×ag}(h:aX f s=some o):∃n,iter f n s=some o:=by
  unfold aX at h;split at h
  · rename_i hh
    cases h
    exact CD hh
  · cases h
def KA{α:Type}{a b:Option α}(h1:∀x,a=some x->b=some x)(h2:∀x,b=some x->a=some x):a=b:=by
  cases a with
  |none=>cases b with
    |none=>rfl
    |some y=>exact h2 y rfl
  |some x=>exact(h1 x rfl).symm
def eP(f:ag->cI)(s:ag):aX f s=fM (aX f) (f s):=by
  refine KA (λo h=>?_) λo h=>?_
  · obtain⟨n,hn⟩:=Kj h
    cases n with
    |zero=>cases hn
    |succ n=>exact Gc hn (λ_ h=>h) λs' h'=>BD h'
  · unfold fM at h
    split at h
    · rename_i s' hs
      obtain⟨n,hn⟩:=Kj h
      refine BD (n:=n+1) ?_
      simp only[iter,hs,fM];exact hn
    · rename_i hs;refine BD (n:=1) ?_;simp only[iter,hs,fM];exact h
    · rename_i hs;refine BD (n:=1) ?_;simp only[iter,hs,fM];exact h
    · cases h
noncomputable def aA(C:cr)(ok:FuncId->Bool):A->ag->cI
  |.skip,s=>some (.normal,s)
  |.ret,s=>some (.ret,s)
  |.exit id,s=>some (.exit id,s)
  |.ops l,s=>iF (jQ C ok l s)
  |.draw t,s=>iF (eD C ok t s)
  |.seq a b,s=>fM (aA C ok b) (aA C ok a s)
  |.cond c a b,s=>match ak s c with
    |.bool t=>if t=true then aA C ok a s else aA C ok b s
    |_=>none
  |.block id b,s=>kW id (aA C ok b s)
  |.loop b,s=>aX (aA C ok b) s
  |.pk ks b,s=>lJ ks (aA C ok b s)
def FL{a b:Option ag}(h:∀s,a=some s->b=some s){o:Ex×ag}(ho:iF a=some o):iF b=some o:=by
  unfold iF at ho;split at ho;· rw[h _ rfl];exact ho
  · cases ho
def MO{id:Nat}{a b:cI}(h:∀s,a=some s->b=some s){o:Ex×ag}(ho:kW id a=some o):kW id b=some o:=by
  cases a with
  |none=>cases ho
  |some x=>rw[h _ rfl];exact ho
def Q4{ks:List Nat}{a b:cI}(h:∀s,a=some s->b=some s){o:Ex×ag}(ho:lJ ks a=some o):lJ ks b=some o:=by
  cases a with
  |none=>cases ho
  |some x=>rw[h _ rfl];exact ho
def W6{C C':cr}{ok:FuncId->Bool}(hl:C.le C'){N:Nat}:∀{t:A} {s:ag} {o:Ex×ag},eA C ok N t s=some o->aA C' ok t s=some o:=by
  intro t;induction t with
  |skip=>intro s o h;exact h
  |ret=>intro s o h;exact h
  |exit id=>intro s o h;exact h
  |ops l=>intro s o h;exact FL (λs' h'=>HM hl h') h
  |draw l=>intro s o h;exact FL (λs' h'=>wq hl h') h
  |seq a b iD jW=>intro s o h;exact Gc h (λx hx=>iD hx) λs' h'=>jW h'
  |cond c a b iD jW=>
    intro s o h;simp only[eA] at h;simp only[aA];split at h
    · rename_i t ht
      try rw[ht]
      cases t with
      |true=>exact iD h
      |false=>exact jW h
    · cases h
  |block id b ih=>intro s o h;exact MO (λx hx=>ih hx) h
  |loop b ih=>intro s o h;exact BD (xF (λs o h=>ih h) (de _) h)
  |pk ks b ih=>intro s o h;exact Q4 (λx hx=>ih hx) h
def W7{C C':cr}{ok:FuncId->Bool}(hl:C.le C'){N N':Nat}(hN:N<=N'):∀{t:A} {s:ag} {o:Ex×ag},eA C ok N t s=some o->eA C' ok N' t s=some o:=by
  intro t;induction t with
  |skip=>intro s o h;exact h
  |ret=>intro s o h;exact h
  |exit id=>intro s o h;exact h
  |ops l=>intro s o h;exact FL (λs' h'=>HM hl h') h
  |draw l=>intro s o h;exact FL (λs' h'=>wq hl h') h
  |seq a b iD jW=>intro s o h;exact Gc h (λx hx=>iD hx) λs' h'=>jW h'
  |cond c a b iD jW=>
    intro s o h;simp only[eA] at h⊢;split at h
    · rename_i t ht
      cases t with
      |true=>exact iD h
      |false=>exact jW h
    · cases h
  |block id b ih=>intro s o h;exact MO (λx hx=>ih hx) h
  |loop b ih=>intro s o h;exact xF (λs o h=>ih h) hN h
  |pk ks b ih=>intro s o h;exact Q4 (λx hx=>ih hx) h
def Dt{L:cr}{T:iy}:∀{n m:Nat},n<=m->(exec L T n).le (exec L T m)
  |0,_,_,_,_,_,h=>by cases h
  |n+1,0,hn,_,_,_,_=>by omega
  |n+1,m+1,hn,f,xs,o,h=>by
    have hnm:n<=m:=by omega
    simp only[exec] at h⊢;split at h
    · rename_i F hF
      unfold eF at h⊢
      split at h
      · rename_i hl
        rw[aq hl]
        cases hr:eA (exec L T n) (aB T) n F.body (ny xs) with
        |none=>rw[hr] at h;cases h
        |some r=>rw[hr] at h;rw[W7 (Dt hnm) hnm hr];exact h
      · cases h
    · exact h
noncomputable def ev(L:cr)(T:iy):cr:=λf xs=>by classical exact if h:∃o:Out,∃n,exec L T n f xs=some o then some (Classical.choose h) else none
def HP{L:cr}{T:iy}{f:FuncId}{xs:List X}{o:Out}{n:Nat}(h:exec L T n f xs=some o):ev L T f xs=some o:=by have hh:∃o:Out,∃n,exec L T n f xs=some o:=⟨o,n,h⟩;unfold ev;rw[oq hh];obtain⟨m,hm⟩:=CD hh;have h1:=Dt (Nat.le_max_left m n) f xs _ hm;have h2:=Dt (Nat.le_max_right m n) f xs _ h;rw[h1] at h2;exact h2
def Dr{L:cr}{T:iy}{f:FuncId}{xs:List X}{o:Out}(h:ev L T f xs=some o):∃n,exec L T n f xs=some o:=by
  unfold ev at h;split at h
  · rename_i hh
    cases h
    exact CD hh
  · cases h
def Xl(L:cr)(T:iy)(n:Nat):(exec L T n).le (ev L T):=λ_ _ _ h=>HP h
def Xk[Bs]{P:Program}{L:cr}{T:iy}(hL:L.Sound P)(hT:T.Ok P):(ev L T).Sound P:=λf xs o h=>by obtain⟨n,hn⟩:=Dr h;exact Og hL hT n f xs o hn
section
variable {L:cr}{T:iy}
def N0{g:G}{s s':ag}(h:eG (ev L T) (aB T) g s=some s'):∃n,∀m,n<=m->eG (exec L T m) (aB T) g s=some s':=by
  rcases NZ h with h|⟨f,xs,r,h1,h2⟩;· exact⟨0,λm _=>h _⟩
  · obtain⟨n,hn⟩:=Dr h1
    exact⟨n,λm hm=>h2 _ (Dt hm f xs r hn)⟩
def N5:∀{l:List G} {s s':ag},jQ (ev L T) (aB T) l s=some s'->∃n,∀m,n<=m->jQ (exec L T m) (aB T) l s=some s'
  |[],s,s',h=>⟨0,λm _=>h⟩
  |g::l,s,s',h=>by
    simp only[jQ] at h⊢;cases h1:eG (ev L T) (aB T) g s with
    |none=>rw[h1] at h;cases h
    |some s1=>rw[h1] at h;obtain⟨n1,iU⟩:=N0 h1;obtain⟨n2,hn2⟩:=N5 (l:=l) h;exact⟨max n1 n2,λm hm=>by rw[iU m (by omega)];exact hn2 m (by omega)⟩
def zj:∀{l:DT} {s s':ag},eD (ev L T) (aB T) l s=some s'->∃n,∀m,n<=m->eD (exec L T m) (aB T) l s=some s'
  |.nil _,s,s',h=>⟨0,λm _=>h⟩
  |.step _ g l,s,s',h=>by
    simp only[eD] at h⊢;cases h1:eG (ev L T) (aB T) g s with
    |none=>rw[h1] at h;cases h
    |some s1=>rw[h1] at h;obtain⟨n1,iU⟩:=N0 h1;obtain⟨n2,hn2⟩:=zj (l:=l) h;exact⟨max n1 n2,λm hm=>by rw[iU m (by omega)];exact hn2 m (by omega)⟩
  |.alt a b,s,s',h=>by
    simp only[eD] at h⊢;unfold same at h;split at h
    · rename_i x y hx hy
      obtain⟨n1,iU⟩:=zj hx
      obtain⟨n2,hn2⟩:=zj hy
      exact⟨max n1 n2,λm hm=>by rw[iU m (by omega),hn2 m (by omega)];exact h⟩
    · cases h
  |.kp _ t,s,s',h=>zj (l:=t) h
def QG{a:Option ag}{b:Nat->Option ag}(h:∀s,a=some s->∃n,∀m,n<=m->b m=some s){o:Ex×ag}(ho:iF a=some o):∃n,∀m,n<=m->iF (b m)=some o:=by
  cases a with
  |none=>cases ho
  |some s=>obtain⟨n,hn⟩:=h s rfl;exact⟨n,λm hm=>by rw[hn m hm];exact ho⟩
def Xi:∀{t:A} {s:ag} {o:Ex×ag},aA (ev L T) (aB T) t s=some o->∃n,∀m,n<=m->eA (exec L T m) (aB T) m t s=some o:=by
  intro t;induction t with
  |skip=>intro s o h;exact⟨0,λm _=>h⟩
  |ret=>intro s o h;exact⟨0,λm _=>h⟩
  |exit id=>intro s o h;exact⟨0,λm _=>h⟩
  |ops l=>intro s o h;exact QG (λs h=>N5 h) h
  |draw l=>intro s o h;exact QG (λs h=>zj h) h
  |seq a b iD jW=>
    intro s o h;simp only[aA] at h;simp only[eA];cases hr:aA (ev L T) (aB T) a s with
    |none=>rw[hr] at h;cases h
    |some r=>
      rw[hr] at h;obtain⟨n1,iU⟩:=iD hr;obtain⟨e,s1⟩:=r;cases e with
      |normal=>obtain⟨n2,hn2⟩:=jW (s:=s1) h;exact⟨max n1 n2,λm hm=>by rw[iU m (by omega)];exact hn2 m (by omega)⟩
      |exit i=>exact⟨n1,λm hm=>by rw[iU m hm];exact h⟩
      |ret=>exact⟨n1,λm hm=>by rw[iU m hm];exact h⟩
  |cond c a b iD jW=>
    intro s o h;simp only[aA] at h;simp only[eA];split at h
    · rename_i t ht
      try rw[ht]
      cases t with
      |true=>exact iD h
      |false=>exact jW h
    · cases h
  |block id b ih=>
    intro s o h;simp only[aA] at h;simp only[eA];cases hr:aA (ev L T) (aB T) b s with
    |none=>rw[hr] at h;cases h
    |some r=>rw[hr] at h;obtain⟨n1,iU⟩:=ih hr;exact⟨n1,λm hm=>by rw[iU m hm];exact h⟩
  |pk ks b ih=>
    intro s o h;simp only[aA] at h;simp only[eA];cases hr:aA (ev L T) (aB T) b s with
    |none=>rw[hr] at h;cases h
    |some r=>rw[hr] at h;obtain⟨n1,iU⟩:=ih hr;exact⟨n1,λm hm=>by rw[iU m hm];exact h⟩
  |loop b ih=>
    intro s o h;simp only[aA] at h;obtain⟨n,hn⟩:=Kj h
    have go:∀(n:Nat) (s:ag),iter (aA (ev L T) (aB T) b) n s=some o->∃k,∀m,k<=m->iter (eA (exec L T m) (aB T) m b) n s=some o:=by
      intro n;induction n with
      |zero=>intro s h;cases h
      |succ n ihn=>
        intro s h;simp only[iter] at h⊢;cases hr:aA (ev L T) (aB T) b s with
        |none=>rw[hr] at h;cases h
        |some r=>
          rw[hr] at h;obtain⟨n1,iU⟩:=ih hr;obtain⟨e,s1⟩:=r;cases e with
          |normal=>obtain⟨n2,hn2⟩:=ihn s1 h;exact⟨max n1 n2,λm hm=>by rw[iU m (by omega)];exact hn2 m (by omega)⟩
          |exit i=>exact⟨n1,λm hm=>by rw[iU m hm];exact h⟩
          |ret=>exact⟨n1,λm hm=>by rw[iU m hm];exact h⟩
    obtain⟨k,hk⟩:=go n s hn;refine⟨max k n,λm hm=>?_⟩;simp only[eA];exact xF (λ_ _ h=>h) (by omega) (hk m (by omega))
noncomputable def Dq(L:cr)(T:iy)(F:Fn)(xs:List X):Option Out:=
  if xs.length=F.n then fin F (aA (ev L T) (aB T) F.body (ny xs)) else none
def Xj{f:FuncId}{F:Fn}(hF:T f=some F)(xs:List X):ev L T f xs=Dq L T F xs:=by
  refine KA (λo h=>?_) λo h=>?_
  · obtain⟨n,hn⟩:=Dr h
    cases n with
    |zero=>cases hn
    |succ n=>
      simp only[exec,hF] at hn
      unfold eF at hn
      unfold Dq
      split at hn
      · rename_i hl
        rw[aq hl]
        cases hr:eA (exec L T n) (aB T) n F.body (ny xs) with
        |none=>rw[hr] at hn;cases hn
        |some r=>rw[hr] at hn;rw[W6 (Xl L T n) hr];exact hn
      · cases hn
  · unfold Dq at h
    split at h
    · rename_i hl
      cases hr:aA (ev L T) (aB T) F.body (ny xs) with
      |none=>rw[hr] at h;cases h
      |some r=>
        rw[hr] at h
        obtain⟨n,hn⟩:=Xi hr
        refine HP (n:=n+1) ?_
        simp only[exec,hF,eF,aq hl,hn n (de n)]
        exact h
    · cases h
def jr{f:FuncId}(hF:T f=none)(xs:List X):ev L T f xs=L f xs:=by
  refine KA (λo h=>?_) λo h=>?_
  · obtain⟨n,hn⟩:=Dr h
    cases n with
    |zero=>cases hn
    |succ n=>simpa only[exec,hF] using hn
  · refine HP (n:=1) ?_
    simpa only[exec,hF] using h
end
end M
set_option linter.unusedVariables false
set_option linter.unusedSimpArgs false
namespace M
open Go
section
variable {C:cr}{ok:FuncId->Bool}{T:iy}
@[simp] def akb(s:ag):aA C ok .skip s=some (.normal,s):=rfl
@[simp] def aj9(s:ag):aA C ok .ret s=some (.ret,s):=rfl
@[simp] def aj5(i:Nat)(s:ag):aA C ok (.exit i) s=some (.exit i,s):=rfl
@[simp] def aj7(l:List G)(s:ag):aA C ok (.ops l) s=iF (jQ C ok l s):=rfl
@[simp] def aj4(t:DT)(s:ag):aA C ok (.draw t) s=iF (eD C ok t s):=rfl
@[simp] def aka(a b:A)(s:ag):aA C ok (.seq a b) s=fM (aA C ok b) (aA C ok a s):=rfl
@[simp] def aj2(i:Nat)(b:A)(s:ag):aA C ok (.block i b) s=kW i (aA C ok b s):=rfl
@[simp] def aj6(b:A)(s:ag):aA C ok (.loop b) s=aX (aA C ok b) s:=rfl
@[simp] def aj8(ks:List Nat)(b:A)(s:ag):aA C ok (.pk ks b) s=lJ ks (aA C ok b s):=rfl
noncomputable def NK(C:cr)(ok:FuncId->Bool)(a b:A)(s:ag):X->cI
  |.bool t=>if t=true then aA C ok a s else aA C ok b s
  |_=>none
@[simp] def aj3(c:AV)(a b:A)(s:ag):aA C ok (.cond c a b) s=NK C ok a b s (ak s c):=by simp only[aA];cases ak s c<;>rfl
@[simp] def ajy(a b:A)(s:ag)(t:Bool):NK C ok a b s (.bool t)=if t=true then aA C ok a s else aA C ok b s:=rfl
@[simp] def aj0(s:ag):jQ C ok [] s=some s:=rfl
@[simp] def ajZ(g:G)(l:List G)(s:ag):jQ C ok (g::l) s=(eG C ok g s).bind (jQ C ok l):=rfl
@[simp] def ajV(ks:List Nat)(s:ag):eD C ok (.nil ks) s=some (keep ks s):=rfl
@[simp] def ajW(i:Nat)(g:G)(t:DT)(s:ag):eD C ok (.step i g t) s=(eG C ok g s).bind (eD C ok t):=rfl
@[simp] def ajT(a b:DT)(s:ag):eD C ok (.alt a b) s=same (eD C ok a s) (eD C ok b s):=rfl
@[simp] def ajU(ks:List Nat)(t:DT)(s:ag):eD C ok (.kp ks t) s=eD C ok t (keep ks s):=rfl
@[simp] def alW(s:ag):same (some s) (some s)=some s:=by
  have:rT s s=true:=by
    induction s with
    |nil=>rfl
    |cons a l ih=>obtain⟨k,x⟩:=a;simp[rT,X.Oc,ih]
  simp[same,this]
@[simp] def aiQ(c:Prop)[Decidable c](a b:Option ag)(f:ag->Option ag):(if c then a else b).bind f=if c then a.bind f else b.bind f:=by split<;>rfl
def DI(C:cr)(ok:FuncId->Bool)(o:cz)(t:Nat)(b:Bool)(s:ag):X->Option ag
  |.bool v=>if v=b then cL C ok o ((t,.bool b)::s) else some (fK o.dst (.aj []) ((t,.bool (!b))::s))
  |.aj []=>some (fK o.dst (.aj []) s)
  |_=>none
@[simp] def ajX(o:cz)(s:ag):eG C ok ⟨none,o⟩ s=cL C ok o s:=rfl
@[simp] def ajY(t:Nat)(b:Bool)(o:cz)(s:ag):eG C ok ⟨some (t,b),o⟩ s=DI C ok o t b s (get s t):=by simp only[eG];split<;>simp_all[DI]
@[simp] def akp(o:cz)(t:Nat)(b v:Bool)(s:ag):DI C ok o t b s (.bool v)=if v=b then cL C ok o ((t,.bool b)::s) else some (fK o.dst (.aj []) ((t,.bool (!b))::s)):=rfl
@[simp] def akq(o:cz)(t:Nat)(b:Bool)(s:ag):DI C ok o t b s (.aj [])=some (fK o.dst (.aj []) s):=rfl
@[simp] def alF(s:ag):iF (some s)=some (.normal,s):=rfl
@[simp] def alE:iF none=none:=rfl
@[simp] def alD(c:Prop)[Decidable c](a b:Option ag):iF (if c then a else b)=if c then iF a else iF b:=by split<;>rfl
@[simp] def afv(k:ag->cI)(s:ag):fM k (some (.normal,s))=k s:=rfl
@[simp] def alY(k:ag->cI)(i:Nat)(s:ag):fM k (some (.exit i,s))=some (.exit i,s):=rfl
@[simp] def al1(k:ag->cI)(s:ag):fM k (some (.ret,s))=some (.ret,s):=rfl
@[simp] def al0(k:ag->cI):fM k none=none:=rfl
@[simp] def alZ(k:ag->cI)(c:Prop)[Decidable c](a b:cI):fM k (if c then a else b)=if c then fM k a else fM k b:=by split<;>rfl
@[simp] def aiU(i:Nat)(s:ag):kW i (some (.normal,s))=some (.normal,s):=rfl
@[simp] def aiR(i j:Nat)(s:ag):kW i (some (.exit j,s))=if j=i then some (.normal,s) else some (.exit j,s):=rfl
@[simp] def aiV(i:Nat)(s:ag):kW i (some (.ret,s))=some (.ret,s):=rfl
@[simp] def aiT(i:Nat):kW i none=none:=rfl
@[simp] def aiS(i:Nat)(c:Prop)[Decidable c](a b:cI):kW i (if c then a else b)=if c then kW i a else kW i b:=by split<;>rfl
@[simp] def alQ(ks:List Nat)(s:ag):lJ ks (some (.normal,s))=some (.normal,keep ks s):=rfl
@[simp] def alN(ks:List Nat)(i:Nat)(s:ag):lJ ks (some (.exit i,s))=some (.exit i,s):=rfl
@[simp] def alR(ks:List Nat)(s:ag):lJ ks (some (.ret,s))=some (.ret,s):=rfl
@[simp] def alP(ks:List Nat):lJ ks none=none:=rfl
@[simp] def alO(ks:List Nat)(c:Prop)[Decidable c](a b:cI):lJ ks (if c then a else b)=if c then lJ ks a else lJ ks b:=by split<;>rfl
def uc(rs:List RV)(n:Nat):cI->Option Out
  |some (.exit _,_)=>none
  |some (_,s)=>if X.clean.cB (dU rs s).1=true/\(dU rs s).1.any X.mP=false then some (uV (dU rs s).1,qT 0 n (dU rs s).2) else none
  |none=>none
def HV(rs:List RV)(n:Nat)(s:ag):Option Out:=if X.clean.cB (dU rs s).1=true/\(dU rs s).1.any X.mP=false then some (uV (dU rs s).1,qT 0 n (dU rs s).2) else none
def aF{L:cr}{T:iy}{f:FuncId}{b:A}{rs:List RV}{n:Nat}(h:T f=some ⟨b,rs,n⟩){xs:List X}(hl:xs.length=n):ev L T f xs=uc rs n (aA (ev L T) (aB T) b (ny xs)):=by rw[Xj h];unfold Dq;rw[aq hl];rfl
@[simp] def ako(rs:List RV)(n:Nat)(s:ag):uc rs n (some (.ret,s))=HV rs n s:=rfl
@[simp] def akn(rs:List RV)(n:Nat)(s:ag):uc rs n (some (.normal,s))=HV rs n s:=rfl
@[simp] def akm(rs:List RV)(n:Nat):uc rs n none=none:=rfl
@[simp] def akl(rs:List RV)(n:Nat)(c:Prop)[Decidable c](a b:cI):uc rs n (if c then a else b)=if c then uc rs n a else uc rs n b:=by split<;>rfl
@[simp] def alU(d:Option Nat)(s:ag)(r:X)(ps:List X):qU d s (some (r,ps))=some (fK d r s):=rfl
@[simp] def alT(d:Option Nat)(s:ag):qU d s none=none:=rfl
@[simp] def alS(d:Option Nat)(s:ag)(c:Prop)[Decidable c](a b:Option Out):qU d s (if c then a else b)=if c then qU d s a else qU d s b:=by split<;>rfl
end
attribute [simp] HV cL ny B8 B9 dU qT post uV X.mP X.clean X.clean.cB X.clean.bn keep Gg CZ rN wg
end M
set_option linter.unusedVariables false
set_option linter.unusedSimpArgs false
namespace M
open Go
def rQ(z bytes:Nat):A:=(.seq (.pk [0] (.ops [⟨none,.bU 2 .bP (.k (.row .own z []))⟩])) (.seq (.seq (.pk [0,4] (.ops [⟨none,.mv 3 (.t 0)⟩,⟨none,.sS 4 false (.t 3)⟩])) (.pk [0] (.cond (.t 4) (.seq (.pk [2,7] (.ops [⟨none,.bU 2 .bP (.k (.row .own z []))⟩])) .ret) .skip))) (.seq (.pk [2,7] (.ops [⟨none,.lit 5 .mv z []⟩,⟨none,.mv 6 (.t 0)⟩,⟨none,.app 7 .al z bytes (.t 5) (.t 6)⟩,⟨none,.bU 2 .bP (.t 7)⟩])) .ret)))
def NF:∀{rows:List (List X)},dS rows=true->X.clean.bn rows=true
  |[],_=>rfl
  |e::l,h=>by
    simp only[dS,ax,rz] at h
    have h1:X.clean.cB e=true:=by
      have h2:=h.1;clear h;induction e with
      |nil=>rfl
      |cons x e ih=>have hx:=h2 x (bz ..);have he:=ih λy hy=>h2 y (cE _ hy);cases x<;>simp_all[scalar,X.clean.cB,X.clean]
    simp only[X.clean.bn,h1,NF h.2,Bool.and_self]
def WL[Bs]{P:Program}{f:FuncId}{z bytes:Nat}(hT:Told P f (rQ z bytes) [.t 2] 1){rows:List (List X)}(h1:rows.length*bytes<=140737488355328)(h2:dS rows=true)(h4:gA rows=true\/rows=[]):
    AC P f [.row .af z rows] λr ps=>r=.row .own z rows/\ps=[.dead]:=by
  refine hT.ac rfl ?_;have h3:=KS h2;have h5:=NF h2;simp[rQ,eM,kn,pZ,aM,base,Ends,h1,h3,h5];intro h6;rcases h4 with h4|h4;· rw[h4] at h6;cases h6
  · subst h4;simp
def fU(f0 z bytes:Nat):cr:=λf xs=>if f=f0 then (match xs with
  |[.row .af z' rows]=>if z'=z/\rows.length*bytes<=140737488355328/\dS rows=true/\(gA rows=true\/rows=[]) then some (.row .own z rows,[.dead]) else none
  |_=>none) else none
def za[Bs]{P:Program}{f0 z bytes:Nat}(hT:Told P f0 (rQ z bytes) [.t 2] 1):(fU f0 z bytes).Sound P:=λf xs o h=>by
  unfold fU at h;split at h
  · rename_i hf
    subst hf
    split at h
    · split at h
      · rename_i hc
        obtain⟨rfl,c1,c2,c3⟩:=hc
        cases h
        exact WL hT c1 c2 c3
      · cases h
    · cases h
  · cases h
def dK(L L':cr):cr:=λf xs=>match L f xs with
  |some o=>some o
  |none=>L' f xs
def kN[Bs]{P:Program}{L L':cr}(h:L.Sound P)(h':L'.Sound P):(dK L L').Sound P:=λf xs o e=>by
  unfold dK at e;split at e
  · rename_i o' e'
    cases e
    exact h f xs _ e'
  · exact h' f xs _ e
end M
set_option linter.unusedVariables false
set_option linter.unusedSimpArgs false
namespace M
open Go
def sv:X->Value
  |.int k n=>.int k n
  |.bool b=>.bool b
  |.str s=>.string s
  |_=>undef
def afk{c:C}(h:scalar c.er=true):c.val=sv c.er:=by cases c<;>first|rfl|(simp[C.er,scalar] at h)
def Cd:X->Bool
  |.str s=>decide (s.size<=9223372036854775807)
  |x=>scalar x
def gO(f0:FuncId)(g:List X->Option X):cr:=λf xs=>if f=f0 then (match g xs with
  |some r=>if xs.all scalar=true/\Cd r=true then some (r,xs.map λ_=>.dead) else none
  |none=>none) else none
end M
set_option linter.unusedVariables false
set_option linter.unusedSimpArgs false
namespace M
open Go Go.Sort
def ox[B:Bs](w:World):Prop:=∀b,b<B.W0.heap.size->w.heap[b]?=B.W0.heap[b]?
def Uy[Bs]{P:Program}{f:FuncId}{xs:List X}{r:X}(hx:∀x∈xs,scalar x=true)(hr:Cd r=true)
    (h:∀w,ox w->Calls P f (xs.map sv).toArray w λe w'=>e=.returned (sv r)/\∃k os,w'=grow (w.drewN k) os):AC P f xs λr' ps=>r'=r/\ps=xs.map λ_=>.dead:=by
  intro w zl zb cs e hA iC;have hv:cs.map C.val=xs.map sv:=by rw[<-e,cH];exact cu λc hc=>afk (hx _ (e▸j8 hc))
  rw[hv];refine(h w λb hb=>(iC b hb).1).mono λe' w' ⟨he,k,os,hw⟩=>?_;subst hw;have hsz:w.heap.size<=(grow (w.drewN k) os).heap.size:=by simp[grow,World.drewN]
  have hs:∃c:C,c.er=r/\c.val=sv r/\c.ok (grow (w.drewN k) os) (Zf zl λ_ _=>False)/\c.bare/\∀b k,¬c.fp b k:=by
    cases r with
    |int k n=>exact⟨.int k n,rfl,rfl,trivial,trivial,λ_ _ h=>h⟩
    |bool b=>exact⟨.bool b,rfl,rfl,trivial,trivial,λ_ _ h=>h⟩
    |str s=>exact⟨.str s,rfl,rfl,by simp[Cd] at hr;exact hr,trivial,λ_ _ h=>h⟩
    |_=>simp[Cd,scalar] at hr
  obtain⟨c,c1,c2,c3,c4,c5⟩:=hs;have zQ:Ext (λb k=>∃x∈cs,x.fp b k) w (grow (w.drewN k) os):=⟨rfl,rfl,rfl,hsz,λb hb=>.inl (by show (w.heap++os)[b]?=w.heap[b]?;exact L5 hb)⟩
  refine⟨c,cs.map λx=>.dead x.val,zl,⟨by rw[he,c2],by rw[cH];rfl,zQ,⟨λx hx'=>?_,λx hx'=>?_,λx hx' b k hf=>?_,λb k hz=>iK (hA.cA b k (hz.imp id λh=>h.elim)) hsz,?_⟩,λx hx' b k hf=>?_,λ_ _ h=>h,λ_ _ h=>.inl h⟩,c1,?_⟩
  · rcases bO.1 hx' with rfl|hx'
    · exact c3
    · obtain⟨y,_,rfl⟩:=aT.1 hx';trivial
  · rcases bO.1 hx' with rfl|hx'
    · exact c4
    · obtain⟨y,_,rfl⟩:=aT.1 hx';trivial
  · rcases bO.1 hx' with rfl|hx'
    · exact(c5 b k hf).elim
    · obtain⟨y,_,rfl⟩:=aT.1 hx';exact hf.elim
  · refine eC.2 ⟨λx _ b k hf=>(c5 b k hf).elim,?_⟩
    refine og.2 λi j hi hj _ b k hf=>?_
    obtain⟨y,_,hy⟩:=aT.1 (cU hi)
    rw[<-hy] at hf
    exact hf.elim
  · rcases bO.1 hx' with rfl|hx'
    · exact(c5 b k hf).elim
    · obtain⟨y,_,rfl⟩:=aT.1 hx';exact hf.elim
  · rw[<-e]
    simp[cH,CE,C.er]
def Z1[Bs]{P:Program}{f0:FuncId}{g:List X->Option X}(h:∀xs r,g xs=some r->∀w,ox w->Calls P f0 (xs.map sv).toArray w λe w'=>e=.returned (sv r)/\∃k os,w'=grow (w.drewN k) os):(gO f0 g).Sound P:=λf xs o e=>by
  unfold gO at e;split at e
  · rename_i hf
    subst hf
    split at e
    · rename_i r hr
      split at e
      · rename_i hc
        cases e
        exact Uy (rz.1 hc.1) hc.2 (h xs r hr)
      · cases e
    · cases e
  · cases e
def TabIs.same[B:Bs]{P:Program}{w:World}{n:String}{k:IntKind}{zs:List Int}(h:Lib.TabIs P B.W0 n k zs)(hw:ox w):Lib.TabIs P w n k zs:=by
  unfold Lib.TabIs World.var? at h⊢;cases hg:P.globalNamed n with
  |none=>rw[hg] at h;cases h
  |some g=>
    rw[hg] at h;simp only[jj] at h⊢
    have hlt:g<B.W0.heap.size:=by
      rcases fN g B.W0.heap.size with h'|h';· exact h'
      · rw[jH h'] at h;cases h
    rw[hw g hlt];exact h
def afq{P:Program}{W:World}{name:String}{k:IntKind}{zs:List Int}{g:Nat}{t e:TypeId}{n:Nat}
    (hg:P.globalNamed name=some g)(hty:(P.globals[g]?).map (·.type)=some t)(ht:P.underlying t=some (.array n e))(he:P.underlying e=some (.int k))(hce:P.cellsOf e=1)(hct:P.cellsOf t=n):
    ∀{l:List (String×DataW Unit)} {ps:List MemPlace},DataW.LaidVars P W l ps->(name,Lib.tabData k zs)∈l->Lib.TabIs P W name k zs
  |[],_,_,h=>by cases h
  |(nm,d)::l,ps,h,hm=>by
    obtain⟨g',t',cs,fuel,p,q,hg',ht',hvar,hd,hr,_⟩:=h;rcases bO.1 hm with hm|hm
    · obtain⟨rfl,rfl⟩:=CB hm
      obtain rfl:=gV (hg.symm.trans hg')
      obtain rfl:=gV (hty.symm.trans ht')
      unfold Lib.TabIs
      rw[hvar,<-Lib.cells_of_tab ht he hce hct hd]
    · exact afq hg hty ht he hce hct hr hm
end M
set_option linter.unusedVariables false
set_option linter.unusedSimpArgs false
namespace M
open Go
def lv:Ex×ag->cI
  |(.normal,_)=>none
  |(.ret,s)=>some (.ret,s)
  |(.exit i,s)=>some (.exit i,s)
def s6{β γ:Type}(go:β->γ->γ ⊕ (Ex×ag)):List β->γ->γ ⊕ (Ex×ag)
  |[],g=>.inl g
  |b::l,g=>match go b g with
    |.inl g'=>s6 go l g'
    |.inr o=>.inr o
def Qp{xt:Nat}{β γ:Type}{f:ag->cI}(l:List β)(st:Nat->γ->ag)(go:β->γ->γ ⊕ (Ex×ag))(E:γ->ag)(Inv:Nat->γ->Prop)(g:γ)(h0:Inv 0 g)
    (h:∀i b g,l[i]?=some b->i<l.length->Inv i g->f (st i g)=(match go b g with|.inl g'=>some (.normal,st (i+1) g')|.inr o=>lv o))
    (hI:∀i b g g',l[i]?=some b->Inv i g->go b g=.inl g'->Inv (i+1) g')
    (hend:∀g,Inv l.length g->f (st l.length g)=some (.exit xt,E g)):
    aX f (st 0 g)=match s6 go l g with|.inl g'=>some (.exit xt,E g')|.inr o=>lv o:=by
  suffices H:∀(r:List β) (i:Nat) (g:γ),Inv i g->l.drop i=r->i<=l.length->aX f (st i g)=match s6 go r g with|.inl g'=>some (.exit xt,E g')|.inr o=>lv o from H l 0 g h0 rfl (tj _)
  intro r;induction r with
  |nil=>
    intro i g hi hr hl;have:i=l.length:=by have:=dw List.length hr;simp at this;omega
    subst this;rw[eP,hend g hi];rfl
  |cons b r ih=>
    intro i g hi hr hl
    have hlt:i<l.length:=by
      rcases fN i l.length with h|h;· exact h
      · rw[L2 h] at hr;cases hr
    have hb:l[i]?=some b:=by have:=nq hlt;rw[hr] at this;rw[cm hlt];cases this;rfl
    have hr':l.drop (i+1)=r:=by have:=nq hlt;rw[hr] at this;cases this;rfl
    rw[eP,h i b g hb hlt hi];unfold s6;cases hg:go b g with
    |inl g'=>exact ih (i+1) g' (hI i b g g' hb hi hg) hr' hlt
    |inr o=>obtain⟨e,s⟩:=o;cases e<;>simp[fM,lv]
def bT{α:Type}(p:α->Bool)(l:List α):Bool:=l.all p
def jM{α:Type}{p:α->Bool}{l:List α}:bT p l=true↔∀x∈l,p x=true:=rz
def lE{xt:Nat}{β:Type}{f:ag->cI}(l:List β)(st:Nat->ag)(p:β->Bool)(R E:ag)
    (h:∀i b,l[i]?=some b->i<l.length->f (st i)=if p b=true then some (.normal,st (i+1)) else some (.ret,R))
    (hend:f (st l.length)=some (.exit xt,E)):
    aX f (st 0)=if bT p l=true then some (.exit xt,E) else some (.ret,R):=by
  show _=if l.all p=true then _ else _
  have H:=Qp (f:=f) l (λi (_:Unit)=>st i) (λb _=>if p b=true then .inl () else .inr (.ret,R)) (λ_=>E) (λ_ _=>True) () trivial
    (λi b g hb hl _=>by rw[h i b hb hl];by_cases hp:p b=true<;>simp[hp,lv]) (λ_ _ _ _ _ _ _=>trivial) λ_ _=>hend
  refine H.trans ?_
  have:∀r:List β,s6 (λb (_:Unit)=>if p b=true then .inl () else .inr (Ex.ret,R)) r ()=if r.all p=true then .inl () else .inr (.ret,R):=by
    intro r;induction r with
    |nil=>rfl
    |cons b r ih=>
      simp only[s6];by_cases hp:p b=true;· simp[hp,ih]
      · simp[hp]
  rw[this];by_cases hp:l.all p=true<;>simp[hp,lv]
def Kk{xt:Nat}{β γ:Type}{f:ag->cI}(l:List β)(st:Nat->γ->ag)(go:γ->β->γ)(E:γ->ag)(Inv:Nat->γ->Prop)(g:γ)(h0:Inv 0 g)
    (h:∀i b g,l[i]?=some b->i<l.length->Inv i g->f (st i g)=some (.normal,st (i+1) (go g b)))
    (hI:∀i b g,l[i]?=some b->Inv i g->Inv (i+1) (go g b))
    (hend:∀g,Inv l.length g->f (st l.length g)=some (.exit xt,E g)):
    aX f (st 0 g)=some (.exit xt,E (l.foldl go g)):=by
  refine(Qp (f:=f) l st (λb g=>.inl (go g b)) E Inv g h0 h (λi b g g' hb hi e=>by cases e;exact hI i b g hb hi) hend).trans ?_
  have:∀(r:List β) (g:γ),s6 (λb g=>.inl (go g b)) r g=(.inl (r.foldl go g):γ ⊕ (Ex×ag)):=by
    intro r;induction r with
    |nil=>intro g;rfl
    |cons b r ih=>intro g;simp only[s6,vG];exact ih _
  rw[this]
def ab9{xt:Nat}{β:Type}{f:ag->cI}(l:List β)(st:Nat->ag)(E:ag)
    (h:∀i b,l[i]?=some b->i<l.length->f (st i)=some (.normal,st (i+1)))
    (hend:f (st l.length)=some (.exit xt,E)):aX f (st 0)=some (.exit xt,E):=
  Kk l (λi (_:Unit)=>st i) (λ_ _=>()) (λ_=>E) (λ_ _=>True) () trivial (λi b _ hb hl _=>h i b hb hl) (λ_ _ _ _ _=>trivial) λ_ _=>hend
def dN{n:Int}(h1:-9223372036854775808<=n)(h2:n<=9223372036854775807):IntKind.i64.wrap n=n:=by simp only[IntKind.wrap,IntKind.signed,IntKind.bits,Bool.true_and,bx];split<;>rename_i h<;>simp at h<;>omega
def cw(n:Nat)(h:n<9223372036854775807):IntKind.i64.wrap (↑n+1)=↑n+1:=dN (by omega) (by omega)
attribute [simp] base F8 gS look F4 yg Ke C8 FE B0 kL iq
abbrev ah:=List UInt8
@[simp] def alX(s:ah):ByteArray.size ⟨s.toArray⟩=s.length:=by simp[ByteArray.size]
@[simp] def str_inj(s t:ah):((⟨s.toArray⟩:ByteArray)=⟨t.toArray⟩)↔s=t:=by
  constructor
  · intro h
    injection h with h
    simpa using dw Array.toList h
  · rintro rfl;rfl
def s8(s t:ah):(⟨s.toArray⟩:ByteArray)++⟨t.toArray⟩=⟨(s++t).toArray⟩:=by apply ByteArray.ext;rw[ByteArray.data_append];simp
@[simp] def eS(s:ah):List X:=[.str ⟨s.toArray⟩]
structure Wr where
  at_:Int
  text:ah
  deriving DecidableEq
structure bZ where
  cells:List ah
  pending:List Wr
  deriving DecidableEq
@[simp] def eW(w:Wr):List X:=[.int .i64 w.at_,.str ⟨w.text.toArray⟩]
@[simp] def gL(m:Md)(d:bZ):List X:=[.row m 1 (d.cells.map eS),.row m 2 (d.pending.map eW)]
@[simp] def alx(m:Md)(l:List ah):X.cl m (l.map eS)=l.map eS:=by induction l<;>simp_all[X.cl,X.dQ,X.md]
@[simp] def alB(m:Md)(l:List Wr):X.cl m (l.map eW)=l.map eW:=by induction l<;>simp_all[X.cl,X.dQ,X.md]
@[simp] def ajj(l:List ah):X.clean.bn (l.map eS)=true:=by induction l<;>simp_all[X.clean.bn,X.clean.cB,X.clean]
@[simp] def ajn(l:List Wr):X.clean.bn (l.map eW)=true:=by induction l<;>simp_all[X.clean.bn,X.clean.cB,X.clean]
def acv{α β:Type}(l:List α)(e:α->β)(z:β)(g:β->β){i:Nat}(hi:i<l.length)(hg:g z=e l[i]):
    ((l.take i).map e++List.replicate (l.length - i) z).modify i g=(l.take (i+1)).map e++List.replicate (l.length - (i+1)) z:=by
  apply gX;intro j;rw[vH];rcases Nat.lt_trichotomy j i with h|h|h
  · rw[pQ (by simp;omega),pQ (by simp;omega)]
    simp only[cS,Mb,aq h,aq (Nat.lt_succ_of_lt h),az (Nat.ne_of_gt h)]
    cases l[j]?<;>rfl
  · subst h
    rw[nr (by simp;omega),pQ (by simp;omega)]
    have:j - ((l.take j).map e).length=0:=by simp;omega
    rw[this,Tq (by omega)]
    simp only[cS,Mb,aq (Nat.lt_succ_self j),cm hi,eL,cC,<-hg]
    rfl
  · rw[nr (by simp;omega),nr (by simp;omega)]
    have h1:j - ((l.take i).map e).length=j - i:=by simp;omega
    have h2:j - ((l.take (i+1)).map e).length=j - (i+1):=by simp;omega
    rw[h1,h2,Ma,Ma]
    by_cases h3:j<l.length
    · rw[aq (by omega),aq (by omega)]
      simp only[Nat.ne_of_lt h,gW]
      rfl
    · rw[az (by omega),az (by omega)]
      rfl
def kZ(rows:List (List X))(i:Nat)(z:List X):List (List X):=rows.take i++List.replicate (rows.length - i) z
@[simp] def aki(rows:List (List X))(i:Nat)(z:List X):(kZ rows i z).length=rows.length:=by simp[kZ];omega
@[simp] def Xw(rows:List (List X))(i:Nat)(z:List X)(h:i<rows.length):(kZ rows i z)[i]?=some z:=by unfold kZ;rw[nr (by simp;omega),Tq (by simp;omega)]
@[simp] def akh(rows:List (List X))(i:Nat)(z:List X)(h:i<(kZ rows i z).length):(kZ rows i z)[i]=z:=by
  have h':i<rows.length:=by simpa using h
  have:=Xw rows i z h';rw[cm h] at this;exact gV this
@[simp] def akk(rows:List (List X))(z:List X):kZ rows 0 z=List.replicate rows.length z:=by simp[kZ]
@[simp] def akg(rows:List (List X))(i:Nat)(z:List X)(h:i=rows.length):kZ rows i z=rows:=by subst h;simp[kZ]
@[simp] def akj(rows:List (List X))(i:Nat)(z:List X)(g:List X->List X)(h:i<rows.length)(hg:g z=rows[i]):(kZ rows i z).modify i g=kZ rows (i+1) z:=by have:=acv rows id z g h (by simpa using hg);simpa [kZ] using this
def Mo{α β:Type}:∀{a:List α} {b:List β},a.length=b.length->∃ps:List (α×β),a=ps.map Prod.fst/\b=ps.map Prod.snd
  |[],[],_=>⟨[],rfl,rfl⟩
  |x::a,y::b,h=>by obtain⟨ps,h1,h2⟩:=Mo (a:=a) (b:=b) (by simpa using h);exact⟨(x,y)::ps,by simp[<-h1],by simp[<-h2]⟩
  |[],_::_,h=>by cases h
  |_::_,[],h=>by cases h
def oD{α:Type}[DecidableEq α](x:α×α):Bool:=decide (x.1=x.2)
def GS{α:Type}[DecidableEq α]:∀ps:List (α×α),bT oD ps=decide (ps.map Prod.fst=ps.map Prod.snd)
  |[]=>rfl
  |x::ps=>by have:=GS ps;unfold bT at this⊢;simp only[List.all_cons,this,oD,bq,nk];exact(Bool.decide_and ..).symm
def acd{xt:Nat}{β:Type}{f:ag->cI}(l:List β)(st:Int->ag)(p:β->Bool)(R:β->ag)(E:ag)
    (h:∀(i:Nat) b,l[i]?=some b->i<l.length->f (st i)=if p b=true then some (.ret,R b) else some (.normal,st (i - 1)))
    (hend:f (st (-1))=some (.exit xt,E)):
    aX f (st (l.length - 1))=(l.reverse.find? p).elim (some (.exit xt,E)) (λb=>some (.ret,R b)):=by
  suffices H:∀k,k<=l.length->aX f (st ((k:Int) - 1))=((l.take k).reverse.find? p).elim (some (.exit xt,E)) (λb=>some (.ret,R b)) by have:=H l.length (de _);rwa [vw] at this
  intro k;induction k with
  |zero=>intro _;rw[eP];simp[hend]
  |succ k ih=>
    intro hk;have hb:l[k]?=some l[k]:=cm hk;have e:((k+1:Nat):Int) - 1=(k:Int):=by omega
    rw[e,eP,h k _ hb hk,List.take_add_one,hb];simp only[Option.toList_some,Tg,LN,List.reverse_nil,j9,Ti,List.find?_cons];by_cases hp:p l[k]=true;· simp[hp]
    · simp only[hp,iw,gW,afv]
      exact ih (by omega)
def dV(d:bZ)(a:Int):ah:=d.pending.foldl (λout w=>if w.at_=a then w.text else out) (d.cells.getD a.toNat [])
def H9(a:Int):∀(l:List Wr) (x:ah),l.foldl (λout w=>if w.at_=a then w.text else out) x=(l.reverse.find? (λw=>decide (w.at_=a))).elim x Wr.text
  |[],x=>rfl
  |w::l,x=>by
    rw[vG,H9 a l,LN,List.find?_append];cases l.reverse.find? (λw=>decide (w.at_=a)) with
    |some v=>rfl
    |none=>by_cases h:w.at_=a<;>simp[h]
def oF(new old:List (List X))(i:Nat):List (List X):=new.take i++old.drop i
@[simp] def Oo(new old:List (List X))(i:Nat)(h:new.length=old.length):(oF new old i).length=old.length:=by simp[oF];omega
@[simp] def Xv(new old:List (List X))(i:Nat)(h:new.length=old.length)(hi:i<old.length):(oF new old i)[i]?=old[i]?:=by unfold oF;rw[nr (by simp;omega),yK];congr 1;simp;omega
@[simp] def ake(new old:List (List X))(i:Nat)(hl:i<(oF new old i).length)(h:new.length=old.length):(oF new old i)[i]=old[i]'(by rw[Oo _ _ _ h] at hl;exact hl):=by
  have hi:i<old.length:=by rw[Oo _ _ _ h] at hl;exact hl
  have:=Xv new old i h hi;rw[cm hl,cm hi] at this;exact gV this
@[simp] def akf(new old:List (List X)):oF new old 0=old:=by simp[oF]
@[simp] def akd(new old:List (List X))(i:Nat)(h:new.length=old.length)(hi:i=old.length):oF new old i=new:=by subst hi;rw[<-h];simp[oF];omega
def Qx(n:Nat)(out:ah):ah:=if h:n=0 then out else Qx (n / 10) (UInt8.ofNat (48+n%10)::out)
termination_by n
decreasing_by omega
def BF(k:Int):ah:=if k<=0 then [109,48] else 109::Qx k.toNat []
def BG(n:Nat)(k:Int):List ah:=(List.range n).map λ(i:Nat)=>BF (k+i)
def BH(n:Nat)(k:Int):List Wr:=(List.range n).map λ(i:Nat)=>⟨k+2*i,BF (k+2*i+1)⟩
@[simp] def alf(n:Nat)(k:Int):(BG n k).length=n:=by simp[BG]
@[simp] def alh(n:Nat)(k:Int):(BH n k).length=n:=by simp[BH]
@[simp] def ale(n:Nat)(k:Int)(i:Nat)(h:i<(BG n k).length):(BG n k)[i]=BF (k+i):=by simp[BG]
@[simp] def alg(n:Nat)(k:Int)(i:Nat)(h:i<(BH n k).length):(BH n k)[i]=⟨k+2*i,BF (k+2*i+1)⟩:=by simp[BH]
def foldI{β γ:Type}(go:Nat->γ->β->γ):Nat->List β->γ->γ
  |_,[],g=>g
  |i,b::l,g=>foldI go (i+1) l (go i g b)
def mR{xt:Nat}{β γ:Type}{f:ag->cI}(l:List β)(st:Nat->γ->ag)(go:Nat->γ->β->γ)(E:γ->ag)(Inv:Nat->γ->Prop)(g:γ)(h0:Inv 0 g)
    (h:∀i b g,l[i]?=some b->i<l.length->Inv i g->f (st i g)=some (.normal,st (i+1) (go i g b)))
    (hI:∀i b g,l[i]?=some b->Inv i g->Inv (i+1) (go i g b))
    (hend:∀g,Inv l.length g->f (st l.length g)=some (.exit xt,E g)):
    aX f (st 0 g)=some (.exit xt,E (foldI go 0 l g)):=by
  suffices H:∀(r:List β) (i:Nat) (g:γ),Inv i g->l.drop i=r->i<=l.length->aX f (st i g)=some (.exit xt,E (foldI go i r g)) from H l 0 g h0 rfl (tj _)
  intro r;induction r with
  |nil=>
    intro i g hi hr hl;have:i=l.length:=by have:=dw List.length hr;simp at this;omega
    subst this;rw[eP,hend g hi];rfl
  |cons b r ih=>
    intro i g hi hr hl
    have hlt:i<l.length:=by
      rcases fN i l.length with h|h;· exact h
      · rw[L2 h] at hr;cases hr
    have hd:=nq hlt;rw[hr] at hd;have hb:l[i]?=some b:=by rw[cm hlt];cases hd;rfl
    have hr':l.drop (i+1)=r:=by cases hd;rfl
    rw[eP,h i b g hb hlt hi];exact ih (i+1) _ (hI i b g hb hi) hr' hlt
def jZ(k:Nat->Bool)(i:Nat)(cs:List ah)(w:Wr):List ah:=if k i=true then cs.set w.at_.toNat w.text else cs
def qI(k:Nat->Bool)(cs:List ah)(ws:List Wr):List ah:=foldI (jZ k) 0 ws cs
def Ka(k:Nat->Bool)(i:Nat)(cs:List ah)(w:Wr):(jZ k i cs w).length=cs.length:=by unfold jZ;split<;>simp
def OQ(k:Nat->Bool):∀(ws:List Wr) (i:Nat) (cs:List ah),(foldI (jZ k) i ws cs).length=cs.length
  |[],_,_=>rfl
  |w::ws,i,cs=>by rw[foldI,OQ k ws,Ka]
def Qe(k:Nat->Bool)(cs:List ah)(ws:List Wr):(qI k cs ws).length=cs.length:=OQ k ws 0 cs
@[simp] def alC(cs:List ah)(n:Nat)(t:ah):(cs.map eS).modify n (λx=>x.set 0 (X.str ⟨t.toArray⟩))=(cs.set n t).map eS:=by
  apply gX;intro j;rw[vH,cS,cS,rC];by_cases h:n=j
  · subst h
    simp only[eL]
    by_cases h2:n<cs.length
    · simp[h2]
    · simp[h2,iL (Nat.le_of_not_lt h2)]
  · simp only[h,gW]
    cases cs[j]?<;>rfl
def jY(keep:List Bool)(all:Bool)(i:Nat):Bool:=all||keep.getD i false
@[simp] def eB(b:Bool):List X:=[.bool b]
@[simp] def alj(m:Md)(l:List Bool):X.cl m (l.map eB)=l.map eB:=by induction l<;>simp_all[X.cl,X.dQ,X.md]
@[simp] def ai8(l:List Bool):X.clean.bn (l.map eB)=true:=by induction l<;>simp_all[X.clean.bn,X.clean.cB,X.clean]
def aeR(l:List ah):dS (l.map eS)=true:=by induction l<;>simp_all[dS,scalar]
def aeS(l:List Wr):dS (l.map eW)=true:=by induction l<;>simp_all[dS,scalar]
attribute [simp] aeR aeS
@[simp] def ai7(a b:List (List X)):X.clean.bn (a++b)=(X.clean.bn a && X.clean.bn b):=by
  induction a with
  |nil=>simp[X.clean.bn]
  |cons e a ih=>simp[X.clean.bn,ih,Bool.and_assoc]
@[simp] def ali(m:Md)(a b:List (List X)):X.cl m (a++b)=X.cl m a++X.cl m b:=by
  induction a with
  |nil=>simp[X.cl]
  |cons e a ih=>simp[X.cl,ih]
structure pW where
  code:List UInt8
  i:Nat
  h:Int
  hi:i<=code.length
  hl:code.length<=9223372036854775807
@[simp] def eU(b:UInt8):List X:=[.int .u8 (b.toNat:Int)]
@[simp] def alA(m:Md)(l:List UInt8):X.cl m (l.map eU)=l.map eU:=by induction l<;>simp_all[X.cl,X.dQ,X.md]
@[simp] def ajm(l:List UInt8):X.clean.bn (l.map eU)=true:=by induction l<;>simp_all[X.clean.bn,X.clean.cB,X.clean]
def kq(c:pW):List X:=[.row .sl 1 (c.code.map eU),.int .i64 c.i,.int .i64 c.h]
@[simp] def ajQ(c:pW):(kq c).length=3:=rfl
@[simp] def ajS(c:pW):(kq c).take 3=kq c:=rfl
@[simp] def ajN(c:pW):(kq c).drop 3=[]:=rfl
@[simp] def ajR(ks:List Nat)(c:pW):X.pF ks (kq c)=kq c:=rfl
@[simp] def ajO(r:Nat)(p:Path)(c:pW):X.gv r p (kq c)=kq c:=rfl
@[simp] def ajP(r:Nat)(p:Path)(c:pW):X.qH r p (kq c)=kq c:=rfl
@[simp] def ajM(c:pW):X.clean.cB (kq c)=true:=by simp[kq,X.clean.cB,X.clean]
@[simp] def ajL(c:pW):X.bare.iP (kq c)=true:=by simp[kq,X.bare.iP,X.bare]
end M
set_option linter.unusedVariables false
set_option linter.unusedSimpArgs false
namespace M
open Go Go.RowKit
inductive Ty where
  |int (k:IntKind)
  |bool
  |str
  |row (ts:List Ty)
inductive iM:Ty->X->Prop
  |int {k n}:(Lit.int k n).wf=true->iM (.int k) (.int k n)
  |bool {b}:iM .bool (.bool b)
  |str {s:ByteArray}:s.size<=maxLen->iM .str (.str s)
  |row {ts xs}:xs.length<=maxLen->(∀r:List X,r∈xs->r.length=ts.length)->(∀(r:List X),r∈xs->∀(j:Nat) ty x,ts[j]?=some ty->r[j]?=some x->iM ty x)->iM (.row ts) (.row .sl ts.length xs)
structure CM (w:World) (ty:Ty) (c:C):Prop where
  cell:c.cell
  cK:c.cK
  fits:c.fits .sl
  ok:c.ok w (Zf (λb _=>b<w.heap.size) λ_ _=>False)
  fp:∀b k,¬c.fp b k
  zc:iM ty c.er
def k8(w:World):List Ty->List Value->List C->Prop
  |[],[],[]=>True
  |ty::ts,v::vs,c::cs=>c.val=v/\CM w ty c/\k8 w ts vs cs
  |_,_,_=>False
def O3{w:World}:∀{ts:List Ty} {vs:List Value} {cs:List C} {ts':List Ty} {vs':List Value} {cs':List C},k8 w ts vs cs->k8 w ts' vs' cs'->k8 w (ts++ts') (vs++vs') (cs++cs')
  |[],[],[],_,_,_,_,h=>h
  |_::_,_::_,_::_,_,_,_,⟨h1,h2,h3⟩,h=>⟨h1,h2,O3 h3 h⟩
def O4{w:World}:∀{ts:List Ty} {vs:List Value} {cs:List C},k8 w ts vs cs->vs.length=ts.length/\cs.length=ts.length/\vs=cs.map C.val
  |[],[],[],_=>⟨rfl,rfl,rfl⟩
  |_::_,_::_,_::_,⟨h1,h2,h3⟩=>by obtain⟨e1,e2,e3⟩:=O4 h3;exact⟨by simp[e1],by simp[e2],by simp[h1,<-e3]⟩
def Ii{w:World}:∀{ts:List Ty} {vs:List Value} {cs:List C},k8 w ts vs cs->∀{j:Nat},j<ts.length->∃ty c,ts[j]?=some ty/\cs[j]?=some c/\vs[j]?=some c.val/\CM w ty c
  |ty::ts,v::vs,c::cs,⟨h1,h2,h3⟩,0,_=>⟨ty,c,rfl,rfl,by simp[h1],h2⟩
  |ty::ts,v::vs,c::cs,⟨h1,h2,h3⟩,j+1,h=>by obtain⟨ty,c,a1,a2,a3,a4⟩:=Ii h3 (j:=j) (by simpa using h);exact⟨ty,c,by simpa using a1,by simpa using a2,by simpa using a3,a4⟩
def yw(P:Program)(r:TypeId->Option (List Ty)):Nat->List Field->Option (List Ty)
  |_,[]=>some []
  |o,f::fs=>if f.offset=o then (r f.type).bind λts=>if ts.length=P.cellsOf f.type then (yw P r (o+ts.length) fs).map (ts++·) else none else none
def jh(P:Program):Nat->Bool->TypeId->Option (List Ty)
  |0,_,_=>none
  |n+1,deep,t=>match P.underlying t with
    |some .bool=>some [.bool]
    |some (.int k)=>some [.int k]
    |some .string=>some [.str]
    |some (.slice e)=>if deep then (jh P n true e).bind λts=>if ts.length=P.cellsOf e/\0<P.cellsOf e then some [.row ts] else none else none
    |some (.struct fs)=>(yw P (jh P n deep) 0 fs.toList).bind λts=>if ts.length=P.cellsOf t then some ts else none
    |_=>none
section
variable {H:Type}{enc:TypeId×Value->H}{P:Program}{w:World}{sp:Nat->Bool}{held:Bool}
def Ss{r:TypeId->Option (List Ty)}{cs:List Value}
    (hr:∀t ts fuel cs' x,r t=some ts->DataW.trod enc P w 0 sp held fuel t cs'=some x->(∀v∈cs',v∈cs)->∃Cs,k8 w ts cs' Cs):
    ∀(fs:List Field) (o:Nat) (ts:List Ty),yw P r o fs=some ts->(∀f∈fs,∃fuel x,DataW.trod enc P w 0 sp held fuel f.type ((cs.drop f.offset).take (P.cellsOf f.type))=some x)->
      ∃Cs,k8 w ts ((cs.drop o).take ts.length) Cs
  |[],o,ts,h,_=>by cases h;exact⟨[],by simp[k8]⟩
  |f::fs,o,ts,h,hx=>by
    simp only[yw] at h;split at h
    · rename_i ho
      simp only[me] at h
      obtain⟨t1,h1,h⟩:=h
      split at h
      · rename_i hl
        simp only[ni] at h
        obtain⟨t2,h2,rfl⟩:=h
        obtain⟨fuel,x,hf⟩:=hx f (bz ..)
        obtain⟨C1,g1⟩:=hr _ _ _ _ _ h1 hf λv hv=>Tc (LH hv)
        obtain⟨C2,g2⟩:=Ss hr fs _ _ h2 λf hf=>hx f (cE _ hf)
        refine⟨C1++C2,?_⟩
        rw[fO,List.take_add,List.drop_drop]
        rw[ho,<-hl] at g1
        exact O3 g1 g2
      · cases h
    · cases h
def afd{w:World}{g o n m:Nat}{spot:Option Nat}{vs:List Value}(hn:0<n)(h:w.cells? 0 ((⟨g,o,spot⟩:Addr).add (0*m)) n=some vs):spot=none:=by
  obtain⟨_,hl,e3⟩:=World.cells?_some h;have e4:=e3 0 hn;have:∃v,vs[0]?=some v:=⟨vs[0],cm (by omega)⟩;obtain⟨v,hv⟩:=this;rw[hv] at e4;have ha:((⟨g,o,spot⟩:Addr).add (0*m)).add 0=⟨g,o,spot⟩:=by simp[Addr.add]
  rw[ha] at e4;unfold World.cell? at e4;cases spot with
  |none=>rfl
  |some k=>
    split at e4;· simp at e4
    · cases e4
def trod_good:∀(n:Nat) (deep:Bool) (t:TypeId) (ts:List Ty),jh P n deep t=some ts->∀(fuel:Nat) (cs:List Value) (x:DataW H×List MemPlace),DataW.trod enc P w 0 sp held fuel t cs=some x->∃Cs,k8 w ts cs Cs
  |0,_,_,_,h,_,_,_,_=>by cases h
  |n+1,deep,t,ts,h,fuel,cs,x,hx=>by
    simp only[jh] at h;split at h
    · rename_i hu
      cases h
      obtain⟨b,rfl,rfl⟩:=DataW.trod_bool hu hx
      exact⟨[.bool b],rfl,⟨trivial,trivial,trivial,trivial,λ_ _ h=>h,.bool⟩,trivial⟩
    · rename_i k hu
      cases h
      obtain⟨m,rfl,rfl,hw⟩:=DataW.trod_int hu hx
      exact⟨[.int k m],rfl,⟨trivial,trivial,trivial,trivial,λ_ _ h=>h,.int hw⟩,trivial⟩
    · rename_i hu
      cases h
      obtain⟨s,rfl,rfl,hw⟩:=DataW.trod_string hu hx
      exact⟨[.str s],rfl,⟨trivial,trivial,trivial,hw,λ_ _ h=>h,.str hw⟩,trivial⟩
    · rename_i e hu
      split at h
      · rename_i hd
        simp only[me] at h
        obtain⟨te,h1,h⟩:=h
        split at h
        · rename_i hl
          obtain⟨hl,hpos⟩:=hl
          cases h
          rcases DataW.trod_slice hu hx with ⟨rfl,rfl⟩|⟨a,len,cap,elems,rest,m,rfl,rfl,rfl,_,hlc,hcm,hel,lf,_,_⟩
          · refine⟨[.row .sl te.length none 0 0 λ_ _=>.dead undef],rfl,⟨trivial,trivial,.inr (.inl rfl),⟨de _,λi j hi=>by omega,λi j hi=>by omega,λh=>(by cases h),λi j hi=>by omega⟩,λb k h=>(by cases h.1),?_⟩,trivial⟩
            exact iM.row (xs:=[]) (by simp) (λr hr=>by cases hr) (λr hr=>by cases hr)
          · obtain⟨g,o,spot⟩:=a
            by_cases hl0:len=0
            · subst hl0
              refine⟨[.row .sl te.length (some (g,o,spot)) 0 cap λ_ _=>.dead undef],rfl,⟨trivial,trivial,.inr (.inl rfl),⟨hlc,λi j hi=>by omega,λi j hi=>by omega,λh=>(by cases h),λi j hi=>by omega⟩,λb k h=>(by cases h.1),?_⟩,trivial⟩
              exact iM.row (xs:=[]) (by simp) (λr hr=>by cases hr) (λr hr=>by cases hr)
            have abp:spot=none:=by have:=lf 0 (by omega);rw[cm (by omega),me] at this;obtain⟨vs,e1,e2⟩:=this;exact afd hpos e1
            subst abp
            have hex:∀i,∃(vs:List Value) (l:List C),i<len->w.cells? 0 ((⟨g,o,none⟩:Addr).add (i*P.cellsOf e)) (P.cellsOf e)=some vs/\k8 w te vs l:=λi=>by
              by_cases hi:i<len
              · have:=lf i hi
                rw[cm (by omega),me] at this
                obtain⟨vs,e1,e2⟩:=this
                obtain⟨l,hl⟩:=trod_good n true _ _ h1 _ _ _ e2
                exact⟨vs,l,λ_=>⟨e1,hl⟩⟩
              · exact⟨[],[],λh=>(hi h).elim⟩
            let vs:=λi=>(hex i).choose
            let l:=λi=>(hex i).choose_spec.choose
            have hvl:∀i,i<len->w.cells? 0 ((⟨g,o,none⟩:Addr).add (i*P.cellsOf e)) (P.cellsOf e)=some (vs i)/\k8 w te (vs i) (l i):=λi=>(hex i).choose_spec.choose_spec
            have hij:∀i j,i<len->j<te.length->∃ty,te[j]?=some ty/\(l i)[j]?=some ((l i).getD j (.dead undef))/\w.cell? ⟨g,o+i*te.length+j,none⟩=some ((l i).getD j (.dead undef)).val/\CM w ty ((l i).getD j (.dead undef)):=λi j hi hj=>by
              obtain⟨e1,e2⟩:=hvl i hi;obtain⟨ty,c,a1,a2,a3,a4⟩:=Ii e2 hj;have hc:(l i).getD j (.dead undef)=c:=by rw[kT,a2];rfl
              rw[hc];obtain⟨_,_,e3⟩:=World.cells?_some e1;have e4:=e3 j (by omega);rw[a3] at e4;refine⟨ty,a1,a2,?_,a4⟩;rw[<-e4];congr 1;rw[hl];unfold Addr.add;split<;>split<;>simp_all
            have hb:∀i j,i<len->j<te.length->g<w.heap.size:=λi j hi hj=>by obtain⟨_,_,_,h3,_⟩:=hij i j hi hj;exact World.block_lt_of_cell? w _ h3
            refine⟨[.row .sl te.length (some (g,o,none)) len cap λi j=>(l i).getD j (.dead undef)],rfl,⟨trivial,trivial,.inr (.inl rfl),⟨hlc,λi j hi hj=>⟨g,o,rfl,?_,λ_=>hb i j hi hj⟩,λi j hi hj=>?_,λh=>(by cases h),λi j hi hj b k hf=>?_⟩,λb k h=>(by cases h.1),?_⟩,trivial⟩
            · obtain⟨ty,_,_,h3,h4⟩:=hij i j hi hj
              exact h3
            · obtain⟨ty,_,_,h3,h4⟩:=hij i j hi hj
              exact⟨h4.cell,h4.cK,h4.fits,h4.ok⟩
            · obtain⟨ty,_,_,h3,h4⟩:=hij i j hi hj
              exact(h4.fp b k hf).elim
            · refine iM.row (by simpa using mc hlc hcm) (λr hr=>?_) λr hr j ty x hty I1=>?_
              · simp only[aT,oc] at hr
                obtain⟨i,_,rfl⟩:=hr
                simp
              · simp only[aT,oc] at hr
                obtain⟨i,hi,rfl⟩:=hr
                have hj:j<te.length:=by
                  rcases fN j te.length with h|h;· exact h
                  · rw[iL h] at hty;cases hty
                obtain⟨ty',e1,_,_,h4⟩:=hij i j hi hj
                rw[e1] at hty
                cases hty
                rw[cS,pR hj] at I1
                simp only[cC,dr] at I1
                subst I1
                exact h4.zc
        · cases h
      · cases h
    · rename_i fs hu
      simp only[me] at h
      obtain⟨te,h1,h⟩:=h
      split at h
      · rename_i hl
        cases h
        obtain⟨xs,m,rfl,rfl,hcs,hxl,lf⟩:=DataW.trod_struct hu hx
        obtain⟨Cs,hC⟩:=Ss (cs:=cs) (λt ts' fuel cs' x hr ht hm=>trod_good n deep t ts' hr fuel cs' x ht) fs.toList 0 ts h1 λf hf=>by
          obtain⟨i,hi,rfl⟩:=pT hf;have hi':i<fs.size:=by simpa using hi
          have:=lf i (fs[i]) (by simp[hi']);rw[cm (by omega)] at this;exact⟨_,_,by simpa using this⟩
        refine⟨Cs,?_⟩
        rw[List.drop_zero,hl,<-hcs,vw] at hC
        exact hC
      · cases h
    · cases h
def Lf:∀(n:Nat) (deep:Bool) (t:TypeId) (ts:List Ty),jh P n deep t=some ts->∀(fuel:Nat) (cs:List Value) (x:DataW H×List MemPlace),DataW.trod enc P w 0 (λ_=>true) held fuel t cs=some x->DataW.trod enc P w 0 (λb=>decide (b<w.heap.size)) held fuel t cs=some x
  |0,_,_,_,h,_,_,_,_=>by cases h
  |n+1,deep,t,ts,h,0,cs,x,hx=>by simp[DataW.trod] at hx
  |n+1,deep,t,ts,h,fuel+1,cs,x,hx=>by
    simp only[jh] at h;split at h
    · rename_i hu
      obtain⟨b,rfl,rfl⟩:=DataW.trod_bool hu hx
      simp[DataW.trod,hu]
    · rename_i k hu
      obtain⟨m,rfl,rfl,hw⟩:=DataW.trod_int hu hx
      simp[DataW.trod,hu,hw]
    · rename_i hu
      obtain⟨s,rfl,rfl,hw⟩:=DataW.trod_string hu hx
      simp[DataW.trod,hu,hw]
    · rename_i e hu
      split at h
      · simp only[me] at h
        obtain⟨te,h1,h⟩:=h
        split at h
        · rename_i hl
          obtain⟨hl,hpos⟩:=hl
          rcases DataW.trod_slice hu hx with ⟨rfl,rfl⟩|⟨a,len,cap,elems',rest',m,_,rfl,_⟩
          · simp[DataW.trod,hu]
          · unfold DataW.trod at hx⊢
            simp only[hu] at hx⊢
            split at hx
            · rename_i hc
              rw[aq hc]
              simp only[ni,me,eL] at hx⊢
              obtain⟨elems,he,rest,uu,rfl⟩:=hx
              have one:∀(i:Nat) (y:DataW H×List MemPlace),(w.cells? 0 (a.add (i*P.cellsOf e)) (P.cellsOf e)).bind (DataW.trod enc P w 0 (λ_=>true) held fuel e)=some y->(w.cells? 0 (a.add (i*P.cellsOf e)) (P.cellsOf e)).bind (DataW.trod enc P w 0 (λb=>decide (b<w.heap.size)) held fuel e)=some y:=λi y hv=>by simp only[me] at hv⊢;obtain⟨cs',jT,hy'⟩:=hv;exact⟨cs',jT,Lf n true _ _ h1 _ _ _ hy'⟩
              refine⟨elems,mapM_carry he λi y _ _ hv=>one i y hv,rest,?_,rfl⟩
              by_cases hb:a.block<w.heap.size
              · rw[aq (by simpa using hb)]
                exact mapM_carry uu λi y _ _ hv=>one (len+i) y hv
              · rw[az (by simpa using hb)]
                have:cap - len=0:=by
                  rcases Nat.eq_zero_or_pos (cap - len) with h|h;· exact h
                  · have h0:=mapM_some_get uu 0 0 (by simp[h])
                    have hl':0<rest.length:=by have:=mapM_some_length uu;simp at this;omega
                    rw[cm hl',me] at h0
                    obtain⟨vs,e1,_⟩:=h0
                    have:=World.cells?_block e1 hpos
                    refine(hb ?_).elim
                    unfold Addr.add at this
                    split at this<;>exact this
                rw[this] at uu
                exact uu
            · cases hx
        · cases h
      · cases h
    · rename_i fs hu
      simp only[me] at h
      obtain⟨te,h1,h⟩:=h
      unfold DataW.trod at hx⊢
      simp only[hu] at hx⊢
      have each:∀(o:Nat) (l:List Field) (ts:List Ty),yw P (jh P n deep) o l=some ts->∀f∈l,∃t1,jh P n deep f.type=some t1:=by
        intro o l;induction l generalizing o with
        |nil=>intro _ _ f hf;cases hf
        |cons f l ih=>
          intro ts h f' hf';simp only[yw] at h;split at h
          · simp only[me] at h
            obtain⟨t1,e1,h⟩:=h
            split at h
            · simp only[ni] at h
              obtain⟨t2,e2,_⟩:=h
              rcases bO.1 hf' with rfl|hf'
              · exact⟨t1,e1⟩
              · exact ih _ _ e2 f' hf'
            · cases h
          · cases h
      split at hx
      · rename_i hc
        rw[aq hc]
        simp only[ni] at hx⊢
        obtain⟨xs,hx,rfl⟩:=hx
        refine⟨xs,mapM_carry hx λf y hf _ hv=>?_,rfl⟩
        obtain⟨t1,e1⟩:=each _ _ _ h1 f hf
        exact Lf n deep _ _ e1 _ _ _ hv
      · cases hx
    · cases h
inductive nu where
  |one (ty:Ty)
  |agg (tys:List Ty)
inductive tI:nu->X->Prop
  |one {ty x}:iM ty x->tI (.one ty) x
  |agg {tys:List Ty} {l:List X}:l.length=tys.length->(∀(j:Nat) ty x,tys[j]?=some ty->l[j]?=some x->iM ty x)->tI (.agg tys) (.agg l)
def tK(P:Program)(t:TypeId):Option nu:=match P.underlying t with
  |some (.struct _)=>(jh P 20 true t).map .agg
  |some .bool=>some (.one .bool)
  |some (.int k)=>some (.one (.int k))
  |some .string=>some (.one .str)
  |some (.slice _)=>(jh P 20 true t).bind fun
    |[ty]=>some (.one ty)
    |_=>none
  |_=>none
def MN{c:C}(h1:c.cell)(h2:c.cK):c.bare:=by cases c<;>first|trivial|exact h2.elim
structure Ms (w:World) (a:nu) (v:Value) (c:C):Prop where
  val:c.val=v
  ok:c.ok w (Zf (λb _=>b<w.heap.size) λ_ _=>False)
  bare:c.bare
  fp:∀b k,¬c.fp b k
  zc:tI a c.er
def DF{ty:Ty}{cs:List Value}{Cs:List C}{v:Value}(h:k8 w [ty] cs Cs)(e:cs=[v]):∃c,Ms w (.one ty) v c:=by
  subst e;match Cs,h with
  |[c],⟨h1,h2,_⟩=>exact⟨c,h1,h2.ok,MN h2.cell h2.cK,h2.fp,.one h2.zc⟩
def UL{r:Reach}{base:Nat}{t:TypeId}{v:Value}{d:DataW H}{p:List MemPlace}{a:nu}(ha:tK P t=some a)(hv:Value.okWide P w r base t v)(hd:DataW.Trod enc P w 0 sp held t v d p):∃c,Ms w a v c:=by
  obtain⟨fuel,hf⟩:=hd;unfold tK at ha;split at ha
  · rename_i fs hu
    simp only[ni] at ha
    obtain⟨ts,ht,rfl⟩:=ha
    unfold Value.okWide at hv
    rw[hu] at hv
    obtain⟨cs,rfl,_,ts',_,_,hcell⟩:=hv
    obtain⟨Cs,hC⟩:=trod_good _ _ _ _ ht _ _ _ hf
    obtain⟨l1,l2,l3⟩:=O4 hC
    have lf:∀j,j<Cs.length->∃ty,ts[j]?=some ty/\CM w ty (Cs.getD j (.dead undef)):=λj hj=>by obtain⟨ty,c,a1,a2,a3,a4⟩:=Ii hC (j:=j) (by omega);exact⟨ty,a1,by rw[kT,a2];exact a4⟩
    refine⟨.agg Cs.length λj=>Cs.getD j (.dead undef),?_,⟨λj hj=>?_,λj hj b k hf=>?_⟩,λj hj=>?_,λb k ⟨j,hj,hf⟩=>?_,?_⟩
    · show Value.agg _=_
      congr 1
      apply pO
      show (List.range Cs.length).map (λj=>(Cs.getD j (.dead undef)).val)=cs.toList
      have:(Value.agg cs).cells.toList=cs.toList:=rfl
      rw[<-this,l3]
      letI:Bs:=⟨w⟩
      exact mV Cs _ C.val
    · obtain⟨_,_,h⟩:=lf j hj;exact⟨h.cell,h.ok⟩
    · obtain⟨_,_,h⟩:=lf j hj;exact(h.fp b k hf).elim
    · obtain⟨_,_,h⟩:=lf j hj;exact MN h.cell h.cK
    · obtain⟨_,_,h⟩:=lf j hj;exact h.fp b k hf
    · refine tI.agg (by simpa using l2) λj ty x hty hx=>?_
      have hj:j<Cs.length:=by
        rcases fN j Cs.length with h|h;· exact h
        · rw[iL (by simpa using h)] at hx;cases hx
      obtain⟨ty',e1,h⟩:=lf j hj
      rw[e1] at hty
      cases hty
      rw[cS,pR hj] at hx
      simp only[cC,dr] at hx
      subst hx
      exact h.zc
  · rename_i hu
    cases ha
    obtain⟨Cs,hC⟩:=trod_good 1 true t [.bool] (by simp[jh,hu]) _ _ _ hf
    obtain⟨b,hb,_⟩:=DataW.trod_bool hu hf
    exact DF hC (v:=v) (by unfold Value.okWide at hv;rw[hu] at hv;unfold Cell.okWide at hv;rw[hu] at hv;unfold Cell.ok at hv;rw[hu] at hv;cases v<;>first|rfl|(simp at hv;done))
  · rename_i k hu
    cases ha
    obtain⟨m,hb,_⟩:=DataW.trod_int hu hf
    obtain⟨Cs,hC⟩:=trod_good 1 true t [.int k] (by simp[jh,hu]) _ _ _ hf
    exact DF hC (v:=v) (by unfold Value.okWide at hv;rw[hu] at hv;unfold Cell.okWide at hv;rw[hu] at hv;unfold Cell.ok at hv;rw[hu] at hv;cases v<;>first|rfl|(simp at hv;done))
  · rename_i hu
    cases ha
    obtain⟨m,hb,_⟩:=DataW.trod_string hu hf
    obtain⟨Cs,hC⟩:=trod_good 1 true t [.str] (by simp[jh,hu]) _ _ _ hf
    exact DF hC (v:=v) (by unfold Value.okWide at hv;rw[hu] at hv;unfold Cell.okWide at hv;rw[hu] at hv;unfold Cell.ok at hv;rw[hu] at hv;cases v<;>first|rfl|(simp at hv;done))
  · rename_i e hu
    simp only[me] at ha
    obtain⟨ts,ht,ha⟩:=ha
    split at ha
    · rename_i ty
      cases ha
      have hc:Cell.okWide P w r base t v:=by unfold Value.okWide at hv;rw[hu] at hv;exact hv
      have hv1:v.cells.toList=[v]:=by unfold Cell.okWide at hc;rw[hu] at hc;unfold Cell.ok at hc;rw[hu] at hc;cases v<;>first|rfl|(simp at hc;done)
      obtain⟨Cs,hC⟩:=trod_good _ _ _ _ ht _ _ _ hf
      exact DF hC hv1
    · cases ha
  · cases ha
def vJ:List nu->List X->Prop
  |[],[]=>True
  |a::as,x::xs=>tI a x/\vJ as xs
  |_,_=>False
def MF{r:Reach}{base:Nat}:∀{ts:List TypeId} {as:List nu} {vs:List Value} {ds:List (DataW H)} {p:List MemPlace},ts.map (tK P)=as.map some->
    (∀(j:Nat) t v,ts[j]?=some t->vs[j]?=some v->Value.okWide P w r base t v)->DataW.TrodAll enc P w 0 sp held ts vs ds p->
    ∃cs:List C,cs.map C.val=vs/\(∀c∈cs,c.ok w (Zf (λb _=>b<w.heap.size) λ_ _=>False)/\c.bare/\∀b k,¬c.fp b k)/\vJ as (cs.map C.er)
  |[],[],[],[],_,_,_,_=>⟨[],rfl,λ_ h=>(by cases h),trivial⟩
  |t::ts,a::as,v::vs,d::ds,_,ha,hv,⟨p,q,h1,h2,_⟩=>by
    simp only[bq,nk] at ha;obtain⟨c,hc⟩:=UL ha.1 (hv 0 t v rfl rfl) h1;obtain⟨cs,e1,e2,e3⟩:=MF ha.2 (λj t' v' ht eO=>hv (j+1) t' v' (by simpa using ht) (by simpa using eO)) h2;refine⟨c::cs,by simp[hc.val,e1],λx hx=>?_,⟨hc.zc,e3⟩⟩;rcases bO.1 hx with rfl|hx;· exact⟨hc.ok,hc.bare,hc.fp⟩
    · exact e2 x hx
def ai4{r:Reach}{base:Nat}{ts:List TypeId}{as:List nu}{vs:List Value}{ds:List (DataW H)}{p:List MemPlace}{f:FuncId}(ha:ts.map (tK P)=as.map some)
    (hv:∀(j:Nat) t v,ts[j]?=some t->vs[j]?=some v->Value.okWide P w r base t v)(hd:DataW.TrodAll enc P w 0 sp held ts vs ds p)
    (Z9:∀xs,vJ as xs->@AC ⟨w⟩ P f xs λr _=>r=.bool true):Calls P f vs.toArray w λe w'=>e=.returned (.bool true)/\Below w.heap.size w w':=by
  obtain⟨cs,rfl,hcs,hc⟩:=MF ha hv hd;refine(Z9 _ hc w (λb _=>b<w.heap.size) (λ_ _=>False) cs rfl ⟨λx hx=>(hcs x hx).1,λx hx=>(hcs x hx).2.1,λx hx b k hf=>((hcs x hx).2.2 b k hf).elim,λb k h=>h.elim id False.elim,?_⟩ λb hb=>⟨rfl,λk=>.inl hb⟩).mono λe w' ⟨r,ps,aE,hD,hr⟩=>?_;· refine og.2 λi j hi hj _ b k hf=>((hcs _ (cU hi)).2.2 b k hf).elim
  · letI:Bs:=⟨w⟩
    have hr':=rV hr
    subst hr'
    exact⟨hD.ends,(hD.ext.mono (S':=λ_ _=>False) λb k ⟨x,hx,hf⟩ _=>(hcs x hx).2.2 b k hf).below⟩
def UK{t:TypeId}{a:nu}(h:tK P t=some a):∃n deep ts,jh P n deep t=some ts:=by
  unfold tK at h;split at h
  · simp only[ni] at h
    obtain⟨ts,ht,_⟩:=h
    exact⟨_,_,ts,ht⟩
  · rename_i hu;exact⟨1,true,[.bool],by simp[jh,hu]⟩
  · rename_i k hu;exact⟨1,true,[.int k],by simp[jh,hu]⟩
  · rename_i hu;exact⟨1,true,[.str],by simp[jh,hu]⟩
  · simp only[me] at h
    obtain⟨ts,ht,_⟩:=h
    exact⟨_,_,ts,ht⟩
  · cases h
def ahN{w':World}(hb:Below w.heap.size w w'):∀{ts:List TypeId} {as:List nu} {vs:List Value} {ds:List (DataW H)} {p:List MemPlace},ts.map (tK P)=as.map some->
    DataW.TrodAll enc P w 0 (λ_=>true) held ts vs ds p->DataW.TrodAll enc P w' 0 (λb=>decide (b<w.heap.size)) held ts vs ds p
  |[],[],[],[],_,_,h=>h
  |t::ts,a::as,v::vs,d::ds,_,ha,⟨p,q,⟨fuel,h1⟩,h2,e⟩=>by simp only[bq,nk] at ha;obtain⟨n,deep,tt,ht⟩:=UK ha.1;have h3:=Lf n deep t tt ht _ _ _ h1;exact⟨p,q,⟨fuel,DataW.trod_carry _ _ _ _ h3 λm hm=>hb.same (DataW.trod_lt _ _ _ _ h3 m hm)⟩,ahN hb ha.2 h2,e⟩
end
end M
set_option linter.unusedVariables false
set_option linter.unusedSimpArgs false
namespace M
open Go
def vK(ts:List Ty)(r:List X):Prop:=r.length=ts.length/\∀(j:Nat) ty x,ts[j]?=some ty->r[j]?=some x->iM ty x
def vK.nil{r:List X}(h:vK [] r):r=[]:=GG.1 h.1
def vK.cons{ty:Ty}{ts:List Ty}{r:List X}(h:vK (ty::ts) r):∃x r',r=x::r'/\iM ty x/\vK ts r':=by
  obtain⟨h1,h2⟩:=h;cases r with
  |nil=>cases h1
  |cons x r=>exact⟨x,r,rfl,h2 0 ty x rfl rfl,by simpa using h1,λj ty x ht hx=>h2 (j+1) ty x (by simpa using ht) (by simpa using hx)⟩
def Ql{α:Type}{e:α->List X}{ok:α->Prop}:∀{xs:List (List X)},(∀r∈xs,∃a,r=e a/\ok a)->∃l:List α,xs=l.map e/\∀a∈l,ok a
  |[],_=>⟨[],rfl,λ_ h=>by cases h⟩
  |r::xs,h=>by
    obtain⟨a,e1,e2⟩:=h r (bz ..);obtain⟨l,e3,e4⟩:=Ql (λr hr=>h r (cE _ hr));refine⟨a::l,by simp[e1,e3],λb hb=>?_⟩;rcases bO.1 hb with rfl|hb;· exact e2
    · exact e4 b hb
def WR{α:Type}(e:α->List X)(ok:α->Prop){ts:List Ty}{x:X}(h:iM (.row ts) x)(hr:∀r,vK ts r->∃a,r=e a/\ok a):∃l:List α,x=.row .sl ts.length (l.map e)/\l.length<=9223372036854775807/\∀a∈l,ok a:=by
  cases h with
  |row h1 h2 h3=>rename_i xs;obtain⟨l,rfl,hl⟩:=Ql (e:=e) (ok:=ok) (xs:=xs) λr hr'=>hr r ⟨h2 r hr',h3 r hr'⟩;rw[cW] at h1;exact⟨l,rfl,h1,hl⟩
def ajz{ty:Ty}{x:X}(h:tI (.one ty) x):iM ty x:=by
  cases h with
  |one h=>exact h
def ajA{a:nu}{as:List nu}{xs:List X}(h:vJ (a::as) xs):∃x xs',xs=x::xs'/\tI a x/\vJ as xs':=by
  match xs,h with
  |x::xs',⟨h1,h2⟩=>exact⟨x,xs',rfl,h1,h2⟩
def ajB{xs:List X}(h:vJ [] xs):xs=[]:=by
  match xs,h with
  |[],_=>rfl
structure aiA (d:bZ):Prop where
  hb:d.cells.length<=9223372036854775807
  hs:∀s∈d.cells,s.length<=9223372036854775807
  hb':d.pending.length<=9223372036854775807
  hs':∀s∈d.pending,s.text.length<=9223372036854775807
  hi:∀s∈d.pending,-9223372036854775808<=s.at_/\s.at_<=9223372036854775807
def WQ{x:X}(h:iM (.int .u8) x):∃b:UInt8,x=.int .u8 (b.toNat:Int):=by
  cases h with
  |int h=>rename_i n;have h':(decide (IntKind.u8.min<=n) && decide (n<=IntKind.u8.max))=true:=h;rw[ax,bx,bx] at h';have h1:0<=n:=h'.1;have h2:n<=255:=h'.2;refine⟨UInt8.ofNat n.toNat,?_⟩;rw[LZ];congr 1;omega
def ajC{x:X}(h:iM (.row [.int .u8]) x):∃l:List UInt8,x=.row .sl 1 (l.map eU)/\l.length<=9223372036854775807/\∀b∈l,True:=
  WR eU (λ_=>True) h λr hr=>by obtain⟨x,r',rfl,h1,h2⟩:=hr.cons;obtain rfl:=h2.nil;obtain⟨b,rfl⟩:=WQ h1;exact⟨b,rfl,trivial⟩
end M
set_option linter.unusedVariables false
set_option linter.unusedSimpArgs false
namespace M
open Go
end M
set_option linter.unusedVariables false
set_option linter.unusedSimpArgs false
namespace M
open Go
def ah7{n:Int}(h1:0<=n)(h2:n<256):IntKind.u8.wrap n=n:=by simp only[IntKind.wrap,IntKind.signed,IntKind.bits,Bool.false_and,iw,gW];omega
def bG(n:Nat):ah:=Lib.decDigits n
def HI:bG 0=[48]:=by unfold bG;rw[Lib.decDigits];rfl
def wm(k:Nat):∀(n:Nat),n<10^(k+1)->(bG n).length<=k+1:=by
  induction k with
  |zero=>intro n h;unfold bG;rw[Lib.decDigits,oq (by simpa using h)];simp
  |succ k ih=>
    intro n h;unfold bG;rw[Lib.decDigits];by_cases h1:n<10;· rw[oq h1];simp
    · rw[CC h1,fO]
      have:=ih (n / 10) (by rw[Nat.pow_succ] at h;omega)
      unfold bG at this
      simp only[cV,jl]
      omega
def JZ(n:Nat):Lib.itoa (n:Int)=bG n:=by unfold Lib.itoa bG;rw[az (by omega)];rfl
def Bw:List X->Option X
  |[.int .i64 n]=>if -9223372036854775808<=n/\n<=9223372036854775807 then some (.str ⟨(Go.Lib.itoa n).toArray⟩) else none
  |_=>none
def abF(f:FuncId)(n:Nat)(h:n<10^18):gO f Bw f [.int .i64 (n:Int)]=some (.str ⟨(bG n).toArray⟩,[.dead]):=by
  have h1:(n:Int)<=9223372036854775807:=by omega
  have h2:=wm 17 n (by omega);simp[gO,Bw,JZ,scalar,Cd,h1];omega
end M
set_option linter.unusedVariables false
set_option linter.unusedSimpArgs false
namespace M
open Go
def wS(s:ah):Nat:=s.length
def wO{α:Type}(_:α):Nat:=0
def wL{α:Type}(w:α->Nat)(l:List α):Nat:=l.length+(l.map w).sum
def iu{α:Type}{w:α->Nat}:∀{l:List α} {a:α},a∈l->w a<=wL w l
  |b::l,a,h=>by
    rcases bO.1 h with rfl|h;· simp[wL];omega
    · have:=iu (w:=w) h
      simp[wL] at this⊢;omega
def bC{α:Type}{w:α->Nat}(l:List α):l.length<=wL w l:=by unfold wL;omega
def bI(n:Int):Prop:=-9223372036854775808<=n/\n<=9223372036854775807
def bS(s:ah):Prop:=s.length<=9223372036854775807
def bB(_:Bool):Prop:=True
def bL{α:Type}(b:α->Prop)(l:List α):Prop:=l.length<=9223372036854775807/\∀a∈l,b a
@[simp] def eI(n:Int):List X:=[.int .i64 n]
@[simp] def alq(m:Md)(l:List Int):X.cl m (l.map eI)=l.map eI:=by induction l<;>simp_all[X.cl,X.dQ,X.md]
@[simp] def ajd(l:List Int):X.clean.bn (l.map eI)=true:=by induction l<;>simp_all[X.clean.bn,X.clean.cB,X.clean]
structure aH where
  name:ah
  value:ah
  deriving DecidableEq
@[simp] def aR(a:aH):List X:=[.str ⟨(a.name).toArray⟩,.str ⟨(a.value).toArray⟩]
@[simp] def alp(m:Md)(l:List aH):X.cl m (l.map aR)=l.map aR:=by induction l<;>simp_all[X.cl,X.dQ,X.md]
@[simp] def ajc(l:List aH):X.clean.bn (l.map aR)=true:=by induction l<;>simp_all[X.clean.bn,X.clean.cB,X.clean]
def aN(a:aH):Nat:=a.name.length+a.value.length
structure MI (x:aH):Prop where
  akV:bS x.name
  ak7:bS x.value
structure aU where
  status:Int
  fields:List aH
  body:ah
  deriving DecidableEq
@[simp] def cF(m:Md)(a:aU):List X:=[.int .i64 a.status,.row m 2 ((a.fields).map aR),.str ⟨(a.body).toArray⟩]
@[simp] def alw(m m':Md)(l:List aU):X.cl m (l.map (cF m'))=l.map (cF m):=by induction l<;>simp_all[X.cl,X.dQ,X.md]
@[simp] def aji(l:List aU):X.clean.bn (l.map (cF .own))=true:=by induction l<;>simp_all[X.clean.bn,X.clean.cB,X.clean]
@[simp] def ajv(l:List aU):X.clean.bn (l.map (cF .sl))=true:=by induction l<;>simp_all[X.clean.bn,X.clean.cB,X.clean]
def aL(a:aU):Nat:=wL aN a.fields+a.body.length
structure CW (x:aU):Prop where
  ak5:bI x.status
  abM:(bL MI) x.fields
  abK:bS x.body
structure Rq where
  method:Int
  path:ah
  fields:List aH
  body:ah
  deriving DecidableEq
@[simp] def dy(m:Md)(a:Rq):List X:=[.int .i64 a.method,.str ⟨(a.path).toArray⟩,.row m 2 ((a.fields).map aR),.str ⟨(a.body).toArray⟩]
@[simp] def alv(m m':Md)(l:List Rq):X.cl m (l.map (dy m'))=l.map (dy m):=by induction l<;>simp_all[X.cl,X.dQ,X.md]
@[simp] def ajh(l:List Rq):X.clean.bn (l.map (dy .own))=true:=by induction l<;>simp_all[X.clean.bn,X.clean.cB,X.clean]
@[simp] def aju(l:List Rq):X.clean.bn (l.map (dy .sl))=true:=by induction l<;>simp_all[X.clean.bn,X.clean.cB,X.clean]
def bg(a:Rq):Nat:=a.path.length+wL aN a.fields+a.body.length
structure CV (x:Rq):Prop where
  akU:bI x.method
  abO:bS x.path
  abM:(bL MI) x.fields
  abK:bS x.body
structure Ob where
  path:ah
  names:List ah
  values:List ah
  resp:aU
  t:Int
  deriving DecidableEq
@[simp] def cD(m:Md)(a:Ob):List X:=[.str ⟨(a.path).toArray⟩,.row m 1 ((a.names).map eS),.row m 1 ((a.values).map eS),.int .i64 a.resp.status,.row m 2 ((a.resp.fields).map aR),.str ⟨(a.resp.body).toArray⟩,.int .i64 a.t]
@[simp] def als(m m':Md)(l:List Ob):X.cl m (l.map (cD m'))=l.map (cD m):=by induction l<;>simp_all[X.cl,X.dQ,X.md]
@[simp] def ajf(l:List Ob):X.clean.bn (l.map (cD .own))=true:=by induction l<;>simp_all[X.clean.bn,X.clean.cB,X.clean]
@[simp] def ajs(l:List Ob):X.clean.bn (l.map (cD .sl))=true:=by induction l<;>simp_all[X.clean.bn,X.clean.cB,X.clean]
def aZ(a:Ob):Nat:=a.path.length+wL wS a.names+wL wS a.values+aL a.resp
structure G0 (x:Ob):Prop where
  abO:bS x.path
  akW:(bL bS) x.names
  ak8:(bL bS) x.values
  J1:CW x.resp
  J2:bI x.t
structure Kp where
  obj:Ob
  at_:Int
  seq:Int
  deriving DecidableEq
@[simp] def av(m:Md)(a:Kp):List X:=[.str ⟨(a.obj.path).toArray⟩,.row m 1 ((a.obj.names).map eS),.row m 1 ((a.obj.values).map eS),.int .i64 a.obj.resp.status,.row m 2 ((a.obj.resp.fields).map aR),.str ⟨(a.obj.resp.body).toArray⟩,.int .i64 a.obj.t,.int .i64 a.at_,.int .i64 a.seq]
@[simp] def alr(m m':Md)(l:List Kp):X.cl m (l.map (av m'))=l.map (av m):=by induction l<;>simp_all[X.cl,X.dQ,X.md]
@[simp] def aje(l:List Kp):X.clean.bn (l.map (av .own))=true:=by induction l<;>simp_all[X.clean.bn,X.clean.cB,X.clean]
@[simp] def ajr(l:List Kp):X.clean.bn (l.map (av .sl))=true:=by induction l<;>simp_all[X.clean.bn,X.clean.cB,X.clean]
def dm(a:Kp):Nat:=aZ a.obj
structure UP (x:Kp):Prop where
  abN:G0 x.obj
  abI:bI x.at_
  abP:bI x.seq
def e9(a:Wr):Nat:=a.text.length
structure UT (x:Wr):Prop where
  abI:bI x.at_
  ak6:bS x.text
def dA(a:bZ):Nat:=wL wS a.cells+wL e9 a.pending
structure UN (x:bZ):Prop where
  akP:(bL bS) x.cells
  ak1:(bL UT) x.pending
structure Bn where
  kind:Int
  a:ah
  b:ah
  t:Int
  deriving DecidableEq
@[simp] def dH(a:Bn):List X:=[.int .i64 a.kind,.str ⟨(a.a).toArray⟩,.str ⟨(a.b).toArray⟩,.int .i64 a.t]
@[simp] def alk(m:Md)(l:List Bn):X.cl m (l.map dH)=l.map dH:=by induction l<;>simp_all[X.cl,X.dQ,X.md]
@[simp] def ai9(l:List Bn):X.clean.bn (l.map dH)=true:=by induction l<;>simp_all[X.clean.bn,X.clean.cB,X.clean]
def bK(a:Bn):Nat:=a.a.length+a.b.length
structure MH (x:Bn):Prop where
  P9:bI x.kind
  k_a:bS x.a
  k_b:bS x.b
  J2:bI x.t
structure Sh where
  bp:bZ
  aG:List Kp
  aW:List Bn
  next:Int
  seq:Int
  deriving DecidableEq
@[simp] def bH(m:Md)(a:Sh):List X:=[.row m 1 ((a.bp.cells).map eS),.row m 2 ((a.bp.pending).map eW),.row m 9 ((a.aG).map (av m)),.row m 4 ((a.aW).map dH),.int .i64 a.next,.int .i64 a.seq]
@[simp] def alz(m m':Md)(l:List Sh):X.cl m (l.map (bH m'))=l.map (bH m):=by induction l<;>simp_all[X.cl,X.dQ,X.md]
@[simp] def ajl(l:List Sh):X.clean.bn (l.map (bH .own))=true:=by induction l<;>simp_all[X.clean.bn,X.clean.cB,X.clean]
@[simp] def ajx(l:List Sh):X.clean.bn (l.map (bH .sl))=true:=by induction l<;>simp_all[X.clean.bn,X.clean.cB,X.clean]
def cR(a:Sh):Nat:=dA a.bp+wL dm a.aG+wL bK a.aW
structure US (x:Sh):Prop where
  akQ:UN x.bp
  akZ:(bL UP) x.aG
  abJ:(bL MH) x.aW
  akX:bI x.next
  abP:bI x.seq
structure Fl where
  q:Rq
  who:List Int
  old:Ob
  gp:Bool
  deriving DecidableEq
@[simp] def bE(m:Md)(a:Fl):List X:=[.int .i64 a.q.method,.str ⟨(a.q.path).toArray⟩,.row m 2 ((a.q.fields).map aR),.str ⟨(a.q.body).toArray⟩,.row m 1 ((a.who).map eI),.str ⟨(a.old.path).toArray⟩,.row m 1 ((a.old.names).map eS),.row m 1 ((a.old.values).map eS),.int .i64 a.old.resp.status,.row m 2 ((a.old.resp.fields).map aR),.str ⟨(a.old.resp.body).toArray⟩,.int .i64 a.old.t,.bool a.gp]
@[simp] def alo(m m':Md)(l:List Fl):X.cl m (l.map (bE m'))=l.map (bE m):=by induction l<;>simp_all[X.cl,X.dQ,X.md]
@[simp] def ND(l:List Fl):X.clean.bn (l.map (bE .own))=true:=by induction l<;>simp_all[X.clean.bn,X.clean.cB,X.clean]
@[simp] def ajq(l:List Fl):X.clean.bn (l.map (bE .sl))=true:=by induction l<;>simp_all[X.clean.bn,X.clean.cB,X.clean]
def bM(a:Fl):Nat:=bg a.q+wL wO a.who+aZ a.old
structure UO (x:Fl):Prop where
  J0:CV x.q
  ak9:(bL bI) x.who
  ak0:G0 x.old
  akS:bB x.gp
structure Se where
  q:Rq
  resp:aU
  t:Int
  deriving DecidableEq
@[simp] def oC(m:Md)(a:Se):List X:=[.int .i64 a.q.method,.str ⟨(a.q.path).toArray⟩,.row m 2 ((a.q.fields).map aR),.str ⟨(a.q.body).toArray⟩,.int .i64 a.resp.status,.row m 2 ((a.resp.fields).map aR),.str ⟨(a.resp.body).toArray⟩,.int .i64 a.t]
@[simp] def aly(m m':Md)(l:List Se):X.cl m (l.map (oC m'))=l.map (oC m):=by induction l<;>simp_all[X.cl,X.dQ,X.md]
@[simp] def ajk(l:List Se):X.clean.bn (l.map (oC .own))=true:=by induction l<;>simp_all[X.clean.bn,X.clean.cB,X.clean]
@[simp] def ajw(l:List Se):X.clean.bn (l.map (oC .sl))=true:=by induction l<;>simp_all[X.clean.bn,X.clean.cB,X.clean]
def gU(a:Se):Nat:=bg a.q+aL a.resp
structure UR (x:Se):Prop where
  J0:CV x.q
  J1:CW x.resp
  J2:bI x.t
structure Rp where
  client:Int
  q:Rq
  resp:aU
  kind:Int
  t:Int
  obj:Ob
  aW:Int
  deriving DecidableEq
@[simp] def ic(m:Md)(a:Rp):List X:=[.int .i64 a.client,.int .i64 a.q.method,.str ⟨(a.q.path).toArray⟩,.row m 2 ((a.q.fields).map aR),.str ⟨(a.q.body).toArray⟩,.int .i64 a.resp.status,.row m 2 ((a.resp.fields).map aR),.str ⟨(a.resp.body).toArray⟩,.int .i64 a.kind,.int .i64 a.t,.str ⟨(a.obj.path).toArray⟩,.row m 1 ((a.obj.names).map eS),.row m 1 ((a.obj.values).map eS),.int .i64 a.obj.resp.status,.row m 2 ((a.obj.resp.fields).map aR),.str ⟨(a.obj.resp.body).toArray⟩,.int .i64 a.obj.t,.int .i64 a.aW]
@[simp] def alu(m m':Md)(l:List Rp):X.cl m (l.map (ic m'))=l.map (ic m):=by induction l<;>simp_all[X.cl,X.dQ,X.md]
@[simp] def ajg(l:List Rp):X.clean.bn (l.map (ic .own))=true:=by induction l<;>simp_all[X.clean.bn,X.clean.cB,X.clean]
@[simp] def ajt(l:List Rp):X.clean.bn (l.map (ic .sl))=true:=by induction l<;>simp_all[X.clean.bn,X.clean.cB,X.clean]
def dM(a:Rp):Nat:=bg a.q+aL a.resp+aZ a.obj
structure UQ (x:Rp):Prop where
  abL:bI x.client
  J0:CV x.q
  J1:CW x.resp
  P9:bI x.kind
  J2:bI x.t
  abN:G0 x.obj
  abJ:bI x.aW
structure Ca where
  au:Sh
  aD:List Fl
  now:Int
  seen:List Se
  sent:List Rp
  deriving DecidableEq
@[simp] def aJ(m:Md)(a:Ca):List X:=[.row m 1 ((a.au.bp.cells).map eS),.row m 2 ((a.au.bp.pending).map eW),.row m 9 ((a.au.aG).map (av m)),.row m 4 ((a.au.aW).map dH),.int .i64 a.au.next,.int .i64 a.au.seq,.row m 13 ((a.aD).map (bE m)),.int .i64 a.now,.row m 8 ((a.seen).map (oC m)),.row m 18 ((a.sent).map (ic m))]
@[simp] def alm(m m':Md)(l:List Ca):X.cl m (l.map (aJ m'))=l.map (aJ m):=by induction l<;>simp_all[X.cl,X.dQ,X.md]
@[simp] def aja(l:List Ca):X.clean.bn (l.map (aJ .own))=true:=by induction l<;>simp_all[X.clean.bn,X.clean.cB,X.clean]
@[simp] def ajo(l:List Ca):X.clean.bn (l.map (aJ .sl))=true:=by induction l<;>simp_all[X.clean.bn,X.clean.cB,X.clean]
def bh(a:Ca):Nat:=cR a.au+wL bM a.aD+wL gU a.seen+wL dM a.sent
structure bCa (x:Ca):Prop where
  ak4:US x.au
  akR:(bL UO) x.aD
  akY:bI x.now
  ak2:(bL UR) x.seen
  ak3:(bL UQ) x.sent
structure De where
  kind:Int
  client:Int
  q:Rq
  a:Int
  resp:aU
  ia:Bn
  keep:List Bool
  deriving DecidableEq
@[simp] def jP(m:Md)(a:De):List X:=[.int .i64 a.kind,.int .i64 a.client,.int .i64 a.q.method,.str ⟨(a.q.path).toArray⟩,.row m 2 ((a.q.fields).map aR),.str ⟨(a.q.body).toArray⟩,.int .i64 a.a,.int .i64 a.resp.status,.row m 2 ((a.resp.fields).map aR),.str ⟨(a.resp.body).toArray⟩,.int .i64 a.ia.kind,.str ⟨(a.ia.a).toArray⟩,.str ⟨(a.ia.b).toArray⟩,.int .i64 a.ia.t,.row m 1 ((a.keep).map eB)]
@[simp] def aln(m m':Md)(l:List De):X.cl m (l.map (jP m'))=l.map (jP m):=by induction l<;>simp_all[X.cl,X.dQ,X.md]
@[simp] def ajb(l:List De):X.clean.bn (l.map (jP .own))=true:=by induction l<;>simp_all[X.clean.bn,X.clean.cB,X.clean]
@[simp] def ajp(l:List De):X.clean.bn (l.map (jP .sl))=true:=by induction l<;>simp_all[X.clean.bn,X.clean.cB,X.clean]
structure bDe (x:De):Prop where
  P9:bI x.kind
  abL:bI x.client
  J0:CV x.q
  k_a:bI x.a
  J1:CW x.resp
  akO:MH x.ia
  akT:(bL bB) x.keep
end M
set_option linter.unusedVariables false
set_option linter.unusedSimpArgs false
namespace M
open Go
def cO{β:Type}(p:β->Bool):Nat->List β->Option (Nat×β)
  |_,[]=>none
  |i,b::l=>if p b=true then some (i,b) else cO p (i+1) l
def rX{β:Type}{p:β->Bool}:∀{l:List β} {k i:Nat} {b:β},cO p k l=some (i,b)->k<=i/\l[i - k]?=some b/\p b=true
  |b'::l,k,i,b,h=>by
    unfold cO at h;split at h
    · rename_i hp
      cases h
      exact⟨de _,by simp,hp⟩
    · obtain⟨h1,h2,h3⟩:=rX h
      refine⟨by omega,?_,h3⟩
      rw[show i - k=(i - (k+1))+1 by omega,Tp]
      exact h2
def HW{β:Type}{p:β->Bool}:∀{l:List β} {k:Nat},cO p k l=none↔∀b∈l,¬p b=true
  |[],k=>by simp[cO]
  |b'::l,k=>by
    unfold cO;by_cases hp:p b'=true;· simp[hp]
    · rw[az hp,HW]
      simp[hp]
def uN{xt:Nat}{β:Type}{f:ag->cI}(l:List β)(st:Nat->ag)(p:β->Bool)(R:Nat->β->ag)(E:ag)
    (h:∀i b,l[i]?=some b->i<l.length->f (st i)=if p b=true then some (.ret,R i b) else some (.normal,st (i+1)))
    (hend:f (st l.length)=some (.exit xt,E)):
    aX f (st 0)=(cO p 0 l).elim (some (.exit xt,E)) λx=>some (.ret,R x.1 x.2):=by
  suffices H:∀(r:List β) (i:Nat),l.drop i=r->i<=l.length->aX f (st i)=(cO p i r).elim (some (.exit xt,E)) λx=>some (.ret,R x.1 x.2) from H l 0 rfl (tj _)
  intro r;induction r with
  |nil=>
    intro i hr hi;have:i=l.length:=by have:=dw List.length hr;simp at this;omega
    subst this;rw[eP,hend];rfl
  |cons b r ih=>
    intro i hr hi;have hb:l[i]?=some b:=by have:=dw (λt:List β=>t[0]?) hr;simpa using this
    have hlt:i<l.length:=(aQ.1 hb).1;have hd:l.drop (i+1)=r:=by have:=dw List.tail hr;simpa using this
    rw[eP,h i b hb hlt];unfold cO;by_cases hp:p b=true;· simp[hp,lv]
    · simp only[hp]
      exact ih (i+1) hd hlt
def qK{xt:Nat}{β γ:Type}{f:ag->cI}(l:List β)(φ:β->List γ)(st:Nat->List γ->ag)(E:List γ->ag)
    (h:∀i b out,l[i]?=some b->i<l.length->out=(l.take i).flatMap φ->f (st i out)=some (.normal,st (i+1) (out++φ b)))
    (hend:∀out,out=l.flatMap φ->f (st l.length out)=some (.exit xt,E out)):
    aX f (st 0 [])=some (.exit xt,E (l.flatMap φ)):=by
  suffices H:∀(k i:Nat),i+k=l.length->aX f (st i ((l.take i).flatMap φ))=some (.exit xt,E (l.flatMap φ)) from H l.length 0 (by omega)
  intro k;induction k with
  |zero=>
    intro i hi;obtain rfl:i=l.length:=by omega
    rw[vw,eP,hend _ rfl];rfl
  |succ k ih=>
    intro i hi;have hlt:i<l.length:=by omega
    rw[eP,h i l[i] _ (cm hlt) hlt rfl];have:(l.take i).flatMap φ++φ l[i]=(l.take (i+1)).flatMap φ:=by rw[yE hlt,GF];simp
    simp only[this];exact ih (i+1) (by omega)
def HY{β γ:Type}(g:β->γ)(l:List β):l.flatMap (λb=>[g b])=l.map g:=by induction l<;>simp_all
def wH{β γ:Type}(g:β->γ)(l:List β)(i:Nat)(h:i<=l.length):((l.take i).flatMap (λb=>[g b])).length=i:=by rw[HY];simp;omega
end M
set_option linter.unusedVariables false
set_option linter.unusedSimpArgs false
namespace M
open Go
def xK(b:UInt8):UInt8:=if 65<=b.toNat/\b.toNat<=90 then b+32 else b
def dh(s:ah):ah:=s.map xK
def Ch(b:UInt8):Bool:=decide ((97<=b.toNat/\b.toNat<=122)\/(48<=b.toNat/\b.toNat<=57)\/b.toNat=45)
def gD(s:ah):Bool:=bT Ch s && decide (1<=(s.length:Int)/\(s.length:Int)<=20)
def pN(lo:Nat)(b:UInt8):Bool:=decide (lo<=b.toNat/\b.toNat<=126)
def jg(s:ah):ah:=Lib.trimB s 32
def ji(s:ah):Bool:=bT (pN 32) s && decide (1<=(s.length:Int)/\(s.length:Int)<=60) && decide (jg s=s)
def dZ(n:Int):ah:=if 0<=n/\n<=1000000 then bG n.toNat else []
def zh(b:UInt8):Bool:=decide (48<=b.toNat/\b.toNat<=57)
def td(s:ah):Nat:=s.foldl (λx b=>10*x+b.toNat - 48) 0
def cy(s:ah):Option Nat:=if td s<=1000000/\bG (td s)=s then some (td s) else none
def kO(s:ah):Bool:=bT (pN 33) s && decide (1<=(s.length:Int)/\(s.length:Int)<=60) && decide (s[0]?.map (λb:UInt8=>(b.toNat:Int))=some 47)
def Sr(s:ah):(jg s).length<=s.length:=by unfold jg Lib.trimB Lib.trimLeftB Lib.trimRightB;have h1:=(Tn (l:=(List.dropWhile (λx=>x==32) s.reverse).reverse) (λx=>x==(32:UInt8))).length_le;have h2:=(Tn (l:=s.reverse) (λx=>x==(32:UInt8))).length_le;simp only[Tt] at h1 h2;omega
def ZS{α β:Type}(f:β->α->β)(l:List α)(a:α)(b:β):(l++[a]).foldl f b=f (l.foldl f b) a:=by simp
def NU(n:Nat):bG n≠[]:=by intro h;have:(bG n).length=Lib.nDigits n:=Lib.decDigits_length n;rw[h] at this;have h2:=Lib.nDigits_pos n;rw[<-this] at h2;simp at h2
def HH(n:Nat)(h:¬n<10):bG n=bG (n / 10)++[UInt8.ofNat (48+n%10)]:=by unfold bG;rw[Lib.decDigits,CC h]
def HG(n:Nat)(h:n<10):bG n=[UInt8.ofNat (48+n)]:=by unfold bG;rw[Lib.decDigits,oq h]
def wo(k:Nat)(h:k<10):(UInt8.ofNat (48+k)).toNat=48+k:=by rw[LZ];omega
def ahR:∀n:Nat,td (bG n)=n:=by
  intro n;induction n using Nat.strongRecOn with
  |ind n ih=>
    by_cases h:n<10
    · rw[HG n h]
      simp only[td,vG,List.foldl_nil,wo n h]
      omega
    · rw[HH n h]
      have:=ih (n / 10) (by omega)
      unfold td at this⊢
      rw[ZS,this,wo _ (by omega)]
      omega
def NT:∀n:Nat,bT zh (bG n)=true:=by
  intro n;induction n using Nat.strongRecOn with
  |ind n ih=>
    rw[jM];by_cases h:n<10
    · rw[HG n h]
      intro x hx
      rw[fG.1 hx]
      unfold zh
      rw[wo n h]
      simp;omega
    · rw[HH n h]
      intro x hx
      rcases fP.1 hx with hx|hx
      · exact jM.1 (ih _ (by omega)) x hx
      · rw[fG.1 hx]
        unfold zh
        rw[wo _ (by omega)]
        simp;omega
def uT{s:ah}{n:Nat}:cy s=some n↔n<=1000000/\bG n=s:=by
  unfold cy;constructor
  · intro h
    split at h
    · rename_i hc
      cases h
      exact hc
    · cases h
  · rintro ⟨h1,rfl⟩
    rw[ahR,aq ⟨h1,rfl⟩]
def qd(n:Nat)(h:n<=1000000):(bG n).length<=7:=wm 6 n (by omega)
def QH(n:Nat)(h:n<=1000000):dZ (n:Int)=bG n:=by unfold dZ;rw[aq (by omega)];rfl
def acO(n:Nat)(h:n<=1000000):cy (dZ n)=some n:=uT.2 ⟨h,(QH n h).symm⟩
def adU:∀(n acc:Nat) (l:List UInt8),acc*10^Lib.nDigits n+n<10000000000->Lib.parseUint10 acc (bG n++l)=Lib.parseUint10 (acc*10^Lib.nDigits n+n) l:=by
  intro n;induction n using Nat.strongRecOn with
  |ind n ih=>
    intro acc l hn;by_cases h:n<10
    · rw[HG n h]
      simp only[gE,j9,Lib.parseUint10,wo n h]
      rw[Lib.nDigits_small h] at hn⊢
      rw[aq (by omega),az (by omega),az (by omega)]
      congr 1
      omega
    · rw[HH n h,rA]
      have e:=Lib.nDigits_big h
      rw[e,Nat.pow_succ] at hn⊢
      have hm:acc*(10^Lib.nDigits (n / 10)*10)=acc*10^Lib.nDigits (n / 10)*10:=by rw[Nat.mul_assoc]
      rw[hm] at hn⊢
      rw[ih (n / 10) (by omega) acc _ (by omega)]
      have hd:=wo (n%10) (by omega)
      simp only[gE,j9,Lib.parseUint10,hd]
      rw[aq (by omega),az (by omega),az (by omega)]
      congr 1
      omega
def MG(n:Nat)(h:n<=1000000):Lib.atoiAll (bG n)=.ok (n:Int):=by
  cases hd:bG n with
  |nil=>exact absurd hd (NU n)
  |cons c r=>have hc:=jM.1 (NT n) c (by rw[hd];exact bz ..);simp only[zh,bx] at hc;rw[Lib.atoiAll_plain c r (by omega) (by omega),<-hd];unfold Lib.parseMag;rw[az (NU n)];have:=adU n 0 [] (by omega);rw[rB] at this;rw[this];simp only[Lib.parseUint10,Lib.signless];rw[az (by omega)];simp
def acL(s:ah)(n:Int)(h:Lib.atoiAll s=.ok n):(if 0<=n/\n<=1000000/\Lib.itoa n=s then some n.toNat else none)=cy s:=by
  split
  · rename_i hc
    symm
    refine uT.2 ⟨by omega,?_⟩
    rw[<-JZ,<-hc.2.2]
    congr 1
    omega
  · rename_i hc
    cases hr:cy s with
    |none=>rfl
    |some m=>
      obtain⟨h1,rfl⟩:=uT.1 hr
      rw[MG m h1] at h
      obtain rfl:(m:Int)=n:=by injection h
      exact absurd ⟨by omega,by omega,JZ m⟩ hc
def acN(s:ah)(h:∀n,Lib.atoiAll s≠.ok n):cy s=none:=by
  cases hr:cy s with
  |none=>rfl
  |some m=>obtain⟨h1,rfl⟩:=uT.1 hr;exact absurd (MG m h1) (h m)
def acM(s:ah)(h:7<s.length):cy s=none:=by
  cases hr:cy s with
  |none=>rfl
  |some m=>obtain⟨h1,rfl⟩:=uT.1 hr;have:=qd m h1;omega
def ct(c:UInt8):ah->List ah
  |[]=>[[]]
  |b::s=>if b=c then []::ct c s else match ct c s with
    |w::ws=>(b::w)::ws
    |[]=>[[b]]
def F6(c:UInt8)(s:ah):ct c s≠[]:=by
  cases s with
  |nil=>simp[ct]
  |cons b s=>
    unfold ct;split;· simp
    · split<;>simp
def lY(s:ah):List ah:=((ct 44 s).map jg).filter λw=>decide (w≠[])
end M
set_option linter.unusedVariables false
set_option linter.unusedSimpArgs false
namespace M
open Go Go.RowKit
def ki(w w':World)(c:C):Prop:=(∀Z,c.ok w' Z)/\c.bare/\∀b k,c.fp b k->w.heap.size<=b
def Uz[Bs]{P:Program}{f:FuncId}{xs:List X}{r:X}
    (h:∀w zl zb cs,cs.map C.er=xs->nv w zl zb cs->ox w->Calls P f (cs.map C.val).toArray w λe w'=>∃c:C,e=.returned c.val/\c.er=r/\Below w.heap.size w w'/\ki w w' c):
    AC P f xs λr' ps=>r'=r/\ps=xs.map λ_=>.dead:=by
  intro w zl zb cs e hA iC;refine(h w zl zb cs e hA λb hb=>(iC b hb).1).mono λe' w' ⟨c,he,hc,hb,c1,c2,c3⟩=>?_;have zQ:Ext (λb k=>∃x∈cs,x.fp b k) w w':=⟨hb.os,hb.tape,hb.output,hb.size,λb hl=>.inl (hb.block b hl)⟩;refine⟨c,cs.map λx=>.dead x.val,zl,⟨he,by rw[cH];rfl,zQ,⟨λx hx'=>?_,λx hx'=>?_,λx hx' b k hf=>?_,λb k hz=>iK (hA.cA b k (hz.imp id λh=>h.elim)) hb.size,?_⟩,λx hx' b k hf=>?_,λ_ _ h=>h,λ_ _ h=>.inl h⟩,hc,?_⟩
  · rcases bO.1 hx' with rfl|hx'
    · exact c1 _
    · obtain⟨y,_,rfl⟩:=aT.1 hx';trivial
  · rcases bO.1 hx' with rfl|hx'
    · exact c2
    · obtain⟨y,_,rfl⟩:=aT.1 hx';trivial
  · rcases bO.1 hx' with rfl|hx'
    · have h1:=c3 b k hf
      exact⟨λhz=>by have:=hA.cA b k (.inl hz);omega,λhz=>hz⟩
    · obtain⟨y,_,rfl⟩:=aT.1 hx';exact hf.elim
  · refine eC.2 ⟨λx hx b k hf hf'=>?_,?_⟩
    · obtain⟨y,_,rfl⟩:=aT.1 hx;exact hf'
    · refine og.2 λi j hi hj _ b k hf=>?_
      obtain⟨y,_,hy⟩:=aT.1 (cU hi)
      rw[<-hy] at hf
      exact hf.elim
  · rcases bO.1 hx' with rfl|hx'
    · exact .inr (c3 b k hf)
    · obtain⟨y,_,rfl⟩:=aT.1 hx';exact hf.elim
  · rw[<-e]
    simp[cH,CE,C.er]
def di(f0:FuncId)(g:List X->Option X):cr:=λf xs=>if f=f0 then (match g xs with
  |some r=>some (r,xs.map λ_=>.dead)
  |none=>none) else none
def uR[Bs]{P:Program}{f0:FuncId}{g:List X->Option X}
    (h:∀xs r,g xs=some r->∀w zl zb cs,cs.map C.er=xs->nv w zl zb cs->ox w->Calls P f0 (cs.map C.val).toArray w λe w'=>∃c:C,e=.returned c.val/\c.er=r/\Below w.heap.size w w'/\ki w w' c):(di f0 g).Sound P:=λf xs o e=>by
  unfold di at e;split at e
  · rename_i hf
    subst hf
    split at e
    · rename_i r hr
      cases e
      exact Uz (h xs r hr)
    · cases e
  · cases e
def kr{c:C}{s:ByteArray}(h:c.er=.str s):c=.str s:=by cases c<;>simp[C.er] at h;rw[h]
def nG{c:C}{k:IntKind}{n:Int}(h:c.er=.int k n):c=.int k n:=by cases c<;>simp[C.er] at h;rw[h.1,h.2]
def Od{c:C}{b:Bool}(h:c.er=.bool b):c=.bool b:=by cases c<;>simp[C.er] at h;rw[h]
def map_nil{l:List C}(h:l.map C.er=[]):l=[]:=by simpa using h
def map_cons{l:List C}{x:X}{xs:List X}(h:l.map C.er=x::xs):∃c cs,l=c::cs/\c.er=x/\cs.map C.er=xs:=by
  cases l with
  |nil=>simp at h
  |cons c cs=>simp at h;exact⟨c,cs,rfl,h.1,h.2⟩
def zy{w w':World}{s:ByteArray}(h:s.size<=9223372036854775807):ki w w' (.str s):=⟨λ_=>h,trivial,λ_ _ h=>h.elim⟩
def ZT{w w':World}{k:IntKind}{n:Int}:ki w w' (.int k n):=⟨λ_=>trivial,trivial,λ_ _ h=>h.elim⟩
def DB{w w':World}{b:Bool}:ki w w' (.bool b):=⟨λ_=>trivial,trivial,λ_ _ h=>h.elim⟩
def lW(l:List C):C:=.aj l.length λj=>l.getD j (.dead undef)
def KH{α β:Type}(l:List α)(d:α)(g:α->β):((List.range l.length).map λj=>g (l.getD j d))=l.map g:=by
  apply List.ext_getElem;· simp
  · intro i h1 h2
    simp at h1
    simp[h1]
def Lg(l:List C):(lW l).er=.aj (l.map C.er):=by show X.aj _=_;rw[KH l _ C.er]
def Lh(l:List C):(lW l).val=.tuple (l.map C.val).toArray:=by show Value.tuple _=_;rw[KH l _ C.val]
def Ib{w w':World}{l:List C}(h:∀c∈l,ki w w' c/\c.fJ/\∀b k,¬c.fp b k):ki w w' (lW l):=by
  have hm:∀j,j<l.length->l.getD j (.dead undef)∈l:=λj hj=>by simp[List.getD,hj]
  refine⟨λZ=>⟨λj hj=>⟨(h _ (hm j hj)).2.1,(h _ (hm j hj)).1.1 Z⟩,λj hj b k hf=>((h _ (hm j hj)).2.2 b k hf).elim⟩,λj hj=>(h _ (hm j hj)).1.2.1,λb k hf=>?_⟩;obtain⟨j,hj,hf⟩:=hf;exact((h _ (hm j hj)).2.2 b k hf).elim
def ZU{w w':World}{g:Nat}{t:TypeId}{l:List ByteArray}(hg:w.heap.size<=g)(hb:w'.heap[g]?=some (.cells (l.map Value.string).toArray t (0,0)))(hs:∀s∈l,s.size<=9223372036854775807):
    ki w w' (.row .own 1 (some (g,0,none)) l.length l.length λi _=>.str (l.getD i ByteArray.empty)):=by
  have hm:∀j,j<l.length->l.getD j ByteArray.empty∈l:=λj hj=>by simp[List.getD,hj]
  refine⟨λZ=>⟨de _,λi j hi hj=>⟨g,0,rfl,?_,λh=>absurd rfl h⟩,λi j hi hj=>⟨trivial,trivial,trivial,hs _ (hm i hi)⟩,λ_=>.inr ⟨g,0,_,t,(0,0),rfl,hb,?_,λk _ _=>?_⟩,λi j hi hj b k hf=>hf.elim⟩,trivial,λb k hf=>?_⟩
  · obtain rfl:j=0:=by omega
    simp only[World.cell?,hb]
    simp[C.val,hi,Go.Value.oneCell']
  · simp
  · simp[World.frozen?,hb]
  · obtain⟨_,h|⟨i,j,_,_,h⟩⟩:=hf
    · obtain⟨o,h⟩:=h
      have hgb:=dw Prod.fst (gV h)
      have hgb:g=b:=hgb;exact hgb▸hg
    · exact h.elim
def aet(l:List ByteArray)(g cap:Nat):(C.row .own 1 (some (g,0,none)) l.length cap λi _=>.str (l.getD i ByteArray.empty)).er=.row .own 1 (l.map λs=>[.str s]):=by show X.row _ _ _=_;congr 1;have:=KH l ByteArray.empty λs=>[X.str s];rw[<-this];rfl
def ua{c:C}{m:Md}{z:Nat}{xs:List (List X)}(h:c.er=.row m z xs):∃A len cap e,c=.row m z A len cap e/\len=xs.length/\∀i,i<len->xs[i]?=some ((List.range z).map λj=>(e i j).er):=by
  cases c with
  |row m' z' A len cap e=>simp only[C.er,X.row.injEq] at h;obtain⟨rfl,rfl,h⟩:=h;refine⟨A,len,cap,e,rfl,by rw[<-h];simp,λi hi=>?_⟩;rw[<-h];simp[hi]
  |_=>simp[C.er] at h
end M
set_option linter.unusedVariables false
set_option linter.unusedSimpArgs false
namespace M
open Go
def qY(s:ah):X:=.str ⟨s.toArray⟩
def FX(l:List ah):X:=.row .own 1 (l.map eS)
def Gf:List X->Option X
  |[.str s,.str c]=>if c.data.toList=[32]/\s.size<=9223372036854775807 then some (qY (jg s.data.toList)) else none
  |_=>none
def B6:List X->Option X
  |[.str s,.str c]=>if s.size<4294967281/\1<=c.size then some (FX (Lib.split s.data.toList c.data.toList)) else none
  |_=>none
def Df:List X->Option X
  |[.str s,.str c]=>if s.size<4294967281 then some (.aj [qY (Lib.cut s.data.toList c.data.toList).1,qY (Lib.cut s.data.toList c.data.toList).2.1,.bool (Lib.cut s.data.toList c.data.toList).2.2]) else none
  |_=>none
def DQ:List X->Option X
  |[.str s,.str c]=>some (.bool (Lib.hasPrefix s.data.toList c.data.toList))
  |_=>none
def Dg:List X->Option X
  |[.str s,.str c]=>if s.size<=9223372036854775807 then some (.aj [qY (Lib.trimPrefix s.data.toList c.data.toList),.bool (Lib.hasPrefix s.data.toList c.data.toList)]) else none
  |_=>none
def FM:List X->Option X
  |[.str s]=>if s.size<=9223372036854775807 then some (match cy s.data.toList with
    |some n=>.aj [.int .i64 n,.bool true]
    |none=>.aj [.int .i64 0,.bool false]) else none
  |_=>none
def HR(f:aH):ah:=f.name++[58,32]++f.value++[13,10]
def ku(l:List aH):ah:=l.flatMap HR
def rZ:List (List X)->Option (List aH)
  |[]=>some []
  |[.str a,.str b]::r=>(rZ r).map λl=>⟨a.data.toList,b.data.toList⟩::l
  |_=>none
def Dv:List X->Option X
  |[.row .af 2 rows]=>(match rZ rows with
    |some l=>if (ku l).length<=140737488355328/\l.length<=140737488355328 then some (qY (ku l)) else none
    |none=>none)
  |_=>none
def OM:∀l:List aH,rZ (l.map aR)=some l
  |[]=>rfl
  |f::l=>by simp[rZ,OM l]
def count_nil(c:UInt8):Lib.count [] [c]=0:=by rw[Lib.count_one];rfl
def afc(c:UInt8):∀s:ah,Lib.split s [c]=ct c s:=by
  have key:∀(n:Nat) (s:ah),s.length<=n->Lib.splitK [c] 0 (Lib.count s [c]) s=ct c s:=by
    intro n;induction n with
    |zero=>intro s hs;obtain rfl:s=[]:=GG.1 (by omega);rw[count_nil];rfl
    |succ n ih=>
      intro s hs;cases s with
      |nil=>rw[count_nil];rfl
      |cons b s=>
        simp at hs;have Fm:=ih s (by omega);by_cases hb:b=c
        · subst hb
          rw[Lib.count_cons_eq,rj]
          have hi:Lib.index (b::s) [b]=0:=Lib.index_first (i:=0) (tj _) (by simp[Lib.occAt]) (λ_ h=>absurd h (Nat.not_lt_zero _))
          simp only[Lib.splitK,hi,ct]
          simp[Fm]
        · rw[Lib.count_cons_ne _ _ _ hb]
          have hnext:Lib.index (b::s) [c]=if Lib.index s [c]=-1 then -1 else Lib.index s [c]+1:=by
            have h:=Lib.index_drop (s:=b::s) (sub:=[c]) (i:=1) (λj hj=>by
              obtain rfl:j=0:=by omega
              simp[Lib.occAt,List.isPrefixOf,vB hb]) (by simp)
            simp at h;exact h
          rw[ct,az hb,<-Fm]
          cases hk:Lib.count s [c] with
          |zero=>simp[Lib.splitK]
          |succ k=>
            simp only[Lib.splitK,hnext]
            by_cases h1:Lib.index s [c]=-1
            · simp[h1]
            · have h0:0<=Lib.index s [c]:=by
                have:-1<=Lib.index s [c]:=Lib.index_ge _ _
                omega
              have h2:¬Lib.index s [c]+1=-1:=by omega
              have h3:(Lib.index s [c]+1).toNat=(Lib.index s [c]).toNat+1:=by omega
              simp[h1,h2,h3]
  intro s;exact key s.length s (de _)
def eu(c:UInt8):ah->Option (ah×ah)
  |[]=>none
  |b::s=>if b=c then some ([],s) else (eu c s).map λp=>(b::p.1,p.2)
def abB(b c:UInt8)(s:ah):Lib.index (b::s) [c]=if b=c then 0 else if Lib.index s [c]=-1 then -1 else Lib.index s [c]+1:=by
  by_cases hb:b=c
  · subst hb
    rw[aq rfl]
    exact Lib.index_first (i:=0) (tj _) (by simp[Lib.occAt]) (λ_ h=>absurd h (Nat.not_lt_zero _))
  · rw[az hb]
    have h:=Lib.index_drop (s:=b::s) (sub:=[c]) (i:=1) (λj hj=>by
      obtain rfl:j=0:=by omega
      simp[Lib.occAt,List.isPrefixOf,vB hb]) (by simp)
    simp at h
    exact h
def Di(c:UInt8):∀s:ah,Lib.cut s [c]=match eu c s with
    |some p=>(p.1,p.2,true)
    |none=>(s,[],false)
  |[]=>rfl
  |b::s=>by
    have ih:=Di c s;have h0:-1<=Lib.index s [c]:=Lib.index_ge _ _;unfold Lib.cut at ih⊢;rw[abB,eu];by_cases hb:b=c;· simp[hb]
    · simp only[hb,gW]
      by_cases h1:Lib.index s [c]=-1
      · rw[h1] at ih
        simp only[h1]
        cases hc:eu c s with
        |none=>simp
        |some p=>rw[hc] at ih;simp at ih
      · have h2:0<=Lib.index s [c]:=by omega
        rw[aq h2] at ih
        rw[az h1,aq (by omega)]
        have h3:(Lib.index s [c]+1).toNat=(Lib.index s [c]).toNat+1:=by omega
        cases hc:eu c s with
        |none=>rw[hc] at ih;simp at ih
        |some p=>
          rw[hc] at ih
          simp at ih
          simp[h3,<-ih.1,<-ih.2]
end M
set_option linter.unusedVariables false
set_option linter.unusedSimpArgs false
namespace M
open Go
def F5(c:UInt8):∀(cur rest:ah),(∀b∈cur,b≠c)->ct c (cur++rest)=match ct c rest with
    |w::ws=>(cur++w)::ws
    |[]=>[cur]
  |[],rest,_=>by
    cases h:ct c rest with
    |nil=>exact absurd h (F6 c rest)
    |cons w ws=>simpa using h
  |a::cur,rest,h=>by rw[gE,ct,az (h a (bz ..)),F5 c cur rest λb hb=>h b (cE _ hb)];cases ct c rest<;>simp
def RX(c:UInt8)(cur:ah)(h:∀b∈cur,b≠c):ct c cur=[cur]:=by have:=F5 c cur [] h;simpa [ct] using this
def ah3(s:ah):lY s=(ct 44 s).flatMap λw=>if jg w≠[] then [jg w] else []:=by
  unfold lY;induction ct 44 s with
  |nil=>rfl
  |cons w l ih=>simp only[bq,CF,jk,<-ih];by_cases h:jg w=[]<;>simp[h]
@[simp] def aj1(l:List UInt8):l.map (λb:UInt8=>[X.int IntKind.u8 (b.toNat:Int)])=l.map eU:=rfl
@[simp] def amo(l:List UInt8):vh (l.map eU)=some l:=ahO l
def K3(c:UInt8):∀s:ah,((ct c s).map List.length).sum+(ct c s).length=s.length+1
  |[]=>rfl
  |b::s=>by
    have:=K3 c s;unfold ct;split;· simp;omega
    · cases h:ct c s with
      |nil=>exact absurd h (F6 c s)
      |cons w ws=>rw[h] at this;simp at this⊢;omega
def RW(c:UInt8)(s:ah):(ct c s).length<=s.length+1:=by have:=K3 c s;omega
def yj(c:UInt8)(s:ah):∀w∈ct c s,w.length<=s.length:=by
  intro w hw;have h:=K3 c s
  have h1:w.length+1<=((ct c s).map List.length).sum+(ct c s).length:=by
    clear h;revert hw;generalize ct c s=l;intro hw;induction l with
    |nil=>cases hw
    |cons x l ih=>
      rcases bO.1 hw with rfl|hw;· simp;omega
      · have:=ih hw;simp;omega
  omega
def ace(b:UInt8)(h:65<=b.toNat/\b.toNat<=90):(b+32).toNat=b.toNat+32:=by rw[UInt8.toNat_add];have:(32:UInt8).toNat=32:=rfl;omega
def ah6{n:Int}(h1:0<=n)(h2:n<256):IntKind.u8.wrap n=n:=ah7 h1 h2
end M
namespace M
def OJ{β γ:Type}(φ:β->List γ)(hφ:∀b,(φ b).length<=1)(l:List β)(i:Nat):((l.take i).flatMap φ).length<=i:=by
  induction l generalizing i with
  |nil=>simp
  |cons b l ih=>
    cases i with
    |zero=>simp
    |succ i=>have:=ih i;have:=hφ b;simp only[List.take_succ_cons,jk,fO];omega
end M
namespace M
@[simp] def ai6(i:Nat):((i:Int)<0)=False:=by simp
end M
namespace M
def Qw{α:Type}(f:α->α)(l:List α)(i:Nat):List α:=(l.take i).map f++l.drop i
@[simp] def ald{α:Type}(f:α->α)(l:List α)(i:Nat):(Qw f l i).length=l.length:=by simp[Qw];omega
end M
namespace M
@[simp] def ach(m:Md):∀(i:Nat) (l:List (List X)),X.cl m (l.take i)=(X.cl m l).take i
  |0,l=>by simp[X.cl]
  |i+1,[]=>by simp[X.cl]
  |i+1,a::l=>by simp[X.cl,ach m i l]
@[simp] def acg(m:Md):∀(i:Nat) (l:List (List X)),X.cl m (l.drop i)=(X.cl m l).drop i
  |0,l=>by simp
  |i+1,[]=>by simp[X.cl]
  |i+1,a::l=>by simp[X.cl,acg m i l]
end M
set_option linter.unusedVariables false
set_option linter.unusedSimpArgs false
namespace M
open Go
abbrev fu:ah:=[99,111,110,116,101,110,116,45,108,101,110,103,116,104]
abbrev qO:ah:=[99,97,99,104,101,45,99,111,110,116,114,111,108]
abbrev qP:ah:=[101,116,97,103]
abbrev kM:ah:=[118,97,114,121]
abbrev jC:ah:=[97,103,101]
abbrev xU:ah:=[105,102,45,110,111,110,101,45,109,97,116,99,104]
def Ln{l:List ah}{a:ah}(h:a∈l):a.length<=wL wS l:=iu (w:=wS) h
def SH{l:List aH}{a:aH}(h:a∈l):a.name.length+a.value.length<=wL aN l:=iu (w:=aN) h
def kj(fs:List aH)(n:ah):Option (Nat×aH):=cO (λf=>decide (f.name=n)) 0 fs
def oy(o:Option (Nat×aH)):Int:=o.elim (-1) λx=>(x.1:Int)
def dP(fs:List aH)(n:ah):Option ah:=(kj fs n).map λx=>x.2.value
def GZ{fs:List aH}{n:ah}{i:Nat}{f:aH}(h:kj fs n=some (i,f)):∃hi:i<fs.length,fs[i]=f/\f.name=n:=by obtain⟨_,h2,h3⟩:=rX h;simp at h2 h3;obtain⟨hi,e⟩:=aQ.1 h2;exact⟨hi,e,h3⟩
def ue(fs:List aH)(n:ah):((dP fs n).getD []).length<=wL aN fs:=by
  unfold dP;cases h:kj fs n with
  |none=>simp
  |some x=>obtain⟨i,f⟩:=x;obtain⟨hi,rfl,_⟩:=GZ h;have:=SH (cU hi);simp;omega
def qi(fs:List aH)(x:aH×Nat):Bool:=gD x.1.name && ji x.1.value && decide (oy (kj fs x.1.name)=x.2) && !decide (x.1.name=fu)
def mB(fs:List aH):Bool:=bT (qi fs) fs.zipIdx && decide ((fs.length:Int)<=8)
def jb(fs:List aH)(n v:ah):List aH:=match kj fs n with
  |some x=>fs.set x.1 ⟨x.2.name,v⟩
  |none=>fs++[⟨n,v⟩]
def Sa{α:Type}(w:α->Nat):∀(l:List α) (i:Nat) (a:α) (h:i<l.length),((l.set i a).map w).sum+w l[i]=(l.map w).sum+w a
  |b::l,0,a,_=>by simp;omega
  |b::l,i+1,a,h=>by have:=Sa w l i a (by simpa using h);simp at this⊢;omega
def KG(fs:List aH)(n v:ah):wL aN (jb fs n v)<=wL aN fs+n.length+v.length+1:=by
  unfold jb;cases h:kj fs n with
  |none=>simp[wL,aN];omega
  |some x=>obtain⟨i,f⟩:=x;obtain⟨hi,rfl,h3⟩:=GZ h;have:=Sa aN fs i ⟨fs[i].name,v⟩ hi;simp only[wL,GH];simp only[aN] at this⊢;omega
def ad6(fs:List aH)(n v:ah):(jb fs n v).length<=fs.length+1:=by
  unfold jb;cases h:kj fs n with
  |none=>simp
  |some x=>simp
def eZ(r:aU):Bool:=decide (100<=r.status/\r.status<=599) && mB r.fields && decide ((r.body.length:Int)<=120)
def lN(q:Rq):Bool:=decide (1<=q.method/\q.method<=4) && kO q.path && mB q.fields && decide ((q.body.length:Int)<=120)
def within(n:Int):Int:=max 0 (min n 1000000)
def plus(a b:Int):Int:=within (within a+within b)
def since(t now:Int):Int:=if now<=t then 0 else min (now - t) 1000000
def GP(fs:List aH):Int:=match dP fs jC with
  |some v=>match cy v with
    |some n=>n
    |none=>1000000
  |none=>0
def jL(fs:List aH)(t now:Int):Int:=plus (GP fs) (since t now)
def ey(fs:List aH):List ah:=(lY ((dP fs kM).getD [])).map dh
def o9(l:List ah):Bool:=bT gD l && decide ((l.length:Int)<=4)
def yf(q:Rq)(fs:List aH):Bool:=(dP q.fields xU).isSome && (dP fs qP).isSome && decide ((dP q.fields xU).getD []=(dP fs qP).getD [])
def jE(f:aH):Bool:=decide (f.name=qP)||decide (f.name=kM)||decide (f.name=qO)
def qX(r:aU):aU:=⟨304,r.fields.filter jE,[]⟩
def dJ(o:Ob):Bool:=eZ o.resp && kO o.path && decide (0<=o.t/\o.t<=1000000) && o9 o.names && decide (o.names=ey o.resp.fields) && decide (o.values.length=o.names.length) && bT ji o.values
def eT(b:Bn):Bool:=decide (0<=b.t/\b.t<=1000000) && (if b.kind=1\/b.kind=2 then kO b.a && decide (b.b=[]) else if b.kind=3 then gD b.a && ji b.b else false)
def uj(b:Bn)(o:Ob):Bool:=decide (o.t<=b.t) && eT b && dJ o && (if b.kind=1 then decide (o.path=b.a) else if b.kind=2 then b.a.isPrefixOf o.path else decide (dP o.resp.fields b.a=some b.b))
def jx(l:List Bn)(o:Ob):Bool:=l.any λb=>uj b o
def uU(w:Wr):Bool:=decide (0<=w.at_/\w.at_<=19)
def fA(d:bZ):Bool:=bT uU d.pending && decide ((d.cells.length:Int)=20) && decide ((d.pending.length:Int)<=16)
def sX(l:List Kp)(i:Nat):Int:=if i=0 then 0 else (l[i - 1]?.map λk=>k.seq).getD 0
def Fu(S:Int)(l:List Kp)(x:Kp×Nat):Bool:=dJ x.1.obj && decide (5<=x.1.at_/\x.1.at_<=19) && bT (λy=>decide ¬y.at_=x.1.at_) (l.take x.2) && decide (sX l x.2<x.1.seq) && decide (x.1.seq<S)
def BO(S:Int)(l:List Kp):Bool:=bT (Fu S l) l.zipIdx
def ad0(l:List Kp)(i:Nat)(h:i<l.length):sX l (i+1)=l[i].seq:=by simp[sX,h]
def OD{β:Type}(p:β->Bool):∀(l:List β) (k:Nat),(cO p k l).isSome= !bT (λb=> !p b) l
  |[],_=>rfl
  |b::l,k=>by
    unfold cO bT;by_cases h:p b=true;· simp[h]
    · have:=OD p l (k+1)
      unfold bT at this
      simp[h,this]
def yz{l:List Kp}{k:Kp}(h:k∈l):aZ k.obj<=wL dm l:=iu (w:=dm) h
def SF{l:List Bn}{b:Bn}(h:b∈l):bK b<=wL bK l:=iu (w:=bK) h
def gR(s:Sh):Bool:=fA s.bp && decide ((s.aW.length:Int)<=5) && decide (5<=s.next/\s.next<=19) && decide (1<=s.seq/\s.seq<=100000) && bT eT s.aW && BO s.seq s.aG
def answer(q:Rq)(o:Ob)(now:Int):aU:=
  let out:=if yf q o.resp.fields=true then qX o.resp else o.resp
  let w:aU:=⟨out.status,jb out.fields jC (dZ (jL o.resp.fields o.t now)),out.body⟩
  if eZ w=true then w else out
def RQ(r:aU):wL aN (r.fields.filter jE)<=wL aN r.fields:=by
  unfold wL;have h1:=Mh jE r.fields
  have h2:((r.fields.filter jE).map aN).sum<=(r.fields.map aN).sum:=by
    generalize r.fields=l;induction l with
    |nil=>simp
    |cons a l ih=>rw[CF];split<;>simp<;>omega
  omega
end M
set_option linter.unusedVariables false
set_option linter.unusedSimpArgs false
namespace M
open Go
def ga(_:Int)(k:Int):Int:=k
def eH(_:ah)(k:Int):ah:=BF k
def QB(_:Bool)(k:Int):Bool:=decide (k.tmod 3=0)
def bA{α:Type}(_:α):Nat:=1
def dY{α:Type}(mk:α->Int->α)(n:α->Nat):List α->Int->List α
  |[],_=>[]
  |a::l,k=>mk a k::dY mk n l (k+(n a:Nat))
def nL{α:Type}(n:α->Nat)(l:List α):Nat:=(l.map n).sum
@[simp] def acn{α:Type}(mk:α->Int->α)(n:α->Nat):∀(l:List α) (k:Int),(dY mk n l k).length=l.length
  |[],_=>rfl
  |a::l,k=>by simp[dY,acn mk n l]
def o8(a:aH)(k:Int):aH:=⟨eH a.name (k),eH a.value (k+1)⟩
def bu(a:aH):Nat:=2
def acu(a:Wr)(k:Int):Wr:=⟨ga a.at_ (k),eH a.text (k+1)⟩
def NJ(a:Wr):Nat:=2
def acq(a:Kp)(k:Int):Kp:=⟨⟨eH a.obj.path (k),dY eH bA a.obj.names (k+1),dY eH bA a.obj.values (k+1+(nL bA a.obj.names:Nat)),⟨ga a.obj.resp.status (k+1+(nL bA a.obj.names:Nat)+(nL bA a.obj.values:Nat)),dY o8 bu a.obj.resp.fields (k+1+(nL bA a.obj.names:Nat)+(nL bA a.obj.values:Nat)+1),eH a.obj.resp.body (k+1+(nL bA a.obj.names:Nat)+(nL bA a.obj.values:Nat)+1+(nL bu a.obj.resp.fields:Nat))⟩,ga a.obj.t (k+1+(nL bA a.obj.names:Nat)+(nL bA a.obj.values:Nat)+1+(nL bu a.obj.resp.fields:Nat)+1)⟩,ga a.at_ (k+1+(nL bA a.obj.names:Nat)+(nL bA a.obj.values:Nat)+1+(nL bu a.obj.resp.fields:Nat)+1+1),ga a.seq (k+1+(nL bA a.obj.names:Nat)+(nL bA a.obj.values:Nat)+1+(nL bu a.obj.resp.fields:Nat)+1+1+1)⟩
def HB(a:Kp):Nat:=6+nL bA a.obj.names+nL bA a.obj.values+nL bu a.obj.resp.fields
def aco(a:Bn)(k:Int):Bn:=⟨ga a.kind (k),eH a.a (k+1),eH a.b (k+1+1),ga a.t (k+1+1+1)⟩
def NH(a:Bn):Nat:=4
def acp(a:Fl)(k:Int):Fl:=⟨⟨ga a.q.method (k),eH a.q.path (k+1),dY o8 bu a.q.fields (k+1+1),eH a.q.body (k+1+1+(nL bu a.q.fields:Nat))⟩,dY ga bA a.who (k+1+1+(nL bu a.q.fields:Nat)+1),⟨eH a.old.path (k+1+1+(nL bu a.q.fields:Nat)+1+(nL bA a.who:Nat)),dY eH bA a.old.names (k+1+1+(nL bu a.q.fields:Nat)+1+(nL bA a.who:Nat)+1),dY eH bA a.old.values (k+1+1+(nL bu a.q.fields:Nat)+1+(nL bA a.who:Nat)+1+(nL bA a.old.names:Nat)),⟨ga a.old.resp.status (k+1+1+(nL bu a.q.fields:Nat)+1+(nL bA a.who:Nat)+1+(nL bA a.old.names:Nat)+(nL bA a.old.values:Nat)),dY o8 bu a.old.resp.fields (k+1+1+(nL bu a.q.fields:Nat)+1+(nL bA a.who:Nat)+1+(nL bA a.old.names:Nat)+(nL bA a.old.values:Nat)+1),eH a.old.resp.body (k+1+1+(nL bu a.q.fields:Nat)+1+(nL bA a.who:Nat)+1+(nL bA a.old.names:Nat)+(nL bA a.old.values:Nat)+1+(nL bu a.old.resp.fields:Nat))⟩,ga a.old.t (k+1+1+(nL bu a.q.fields:Nat)+1+(nL bA a.who:Nat)+1+(nL bA a.old.names:Nat)+(nL bA a.old.values:Nat)+1+(nL bu a.old.resp.fields:Nat)+1)⟩,QB a.gp (k+1+1+(nL bu a.q.fields:Nat)+1+(nL bA a.who:Nat)+1+(nL bA a.old.names:Nat)+(nL bA a.old.values:Nat)+1+(nL bu a.old.resp.fields:Nat)+1+1)⟩
def HA(a:Fl):Nat:=8+nL bu a.q.fields+nL bA a.who+nL bA a.old.names+nL bA a.old.values+nL bu a.old.resp.fields
def acs(a:Se)(k:Int):Se:=⟨⟨ga a.q.method (k),eH a.q.path (k+1),dY o8 bu a.q.fields (k+1+1),eH a.q.body (k+1+1+(nL bu a.q.fields:Nat))⟩,⟨ga a.resp.status (k+1+1+(nL bu a.q.fields:Nat)+1),dY o8 bu a.resp.fields (k+1+1+(nL bu a.q.fields:Nat)+1+1),eH a.resp.body (k+1+1+(nL bu a.q.fields:Nat)+1+1+(nL bu a.resp.fields:Nat))⟩,ga a.t (k+1+1+(nL bu a.q.fields:Nat)+1+1+(nL bu a.resp.fields:Nat)+1)⟩
def NI(a:Se):Nat:=6+nL bu a.q.fields+nL bu a.resp.fields
def acr(a:Rp)(k:Int):Rp:=⟨ga a.client (k),⟨ga a.q.method (k+1),eH a.q.path (k+1+1),dY o8 bu a.q.fields (k+1+1+1),eH a.q.body (k+1+1+1+(nL bu a.q.fields:Nat))⟩,⟨ga a.resp.status (k+1+1+1+(nL bu a.q.fields:Nat)+1),dY o8 bu a.resp.fields (k+1+1+1+(nL bu a.q.fields:Nat)+1+1),eH a.resp.body (k+1+1+1+(nL bu a.q.fields:Nat)+1+1+(nL bu a.resp.fields:Nat))⟩,ga a.kind (k+1+1+1+(nL bu a.q.fields:Nat)+1+1+(nL bu a.resp.fields:Nat)+1),ga a.t (k+1+1+1+(nL bu a.q.fields:Nat)+1+1+(nL bu a.resp.fields:Nat)+1+1),⟨eH a.obj.path (k+1+1+1+(nL bu a.q.fields:Nat)+1+1+(nL bu a.resp.fields:Nat)+1+1+1),dY eH bA a.obj.names (k+1+1+1+(nL bu a.q.fields:Nat)+1+1+(nL bu a.resp.fields:Nat)+1+1+1+1),dY eH bA a.obj.values (k+1+1+1+(nL bu a.q.fields:Nat)+1+1+(nL bu a.resp.fields:Nat)+1+1+1+1+(nL bA a.obj.names:Nat)),⟨ga a.obj.resp.status (k+1+1+1+(nL bu a.q.fields:Nat)+1+1+(nL bu a.resp.fields:Nat)+1+1+1+1+(nL bA a.obj.names:Nat)+(nL bA a.obj.values:Nat)),dY o8 bu a.obj.resp.fields (k+1+1+1+(nL bu a.q.fields:Nat)+1+1+(nL bu a.resp.fields:Nat)+1+1+1+1+(nL bA a.obj.names:Nat)+(nL bA a.obj.values:Nat)+1),eH a.obj.resp.body (k+1+1+1+(nL bu a.q.fields:Nat)+1+1+(nL bu a.resp.fields:Nat)+1+1+1+1+(nL bA a.obj.names:Nat)+(nL bA a.obj.values:Nat)+1+(nL bu a.obj.resp.fields:Nat))⟩,ga a.obj.t (k+1+1+1+(nL bu a.q.fields:Nat)+1+1+(nL bu a.resp.fields:Nat)+1+1+1+1+(nL bA a.obj.names:Nat)+(nL bA a.obj.values:Nat)+1+(nL bu a.obj.resp.fields:Nat)+1)⟩,ga a.aW (k+1+1+1+(nL bu a.q.fields:Nat)+1+1+(nL bu a.resp.fields:Nat)+1+1+1+1+(nL bA a.obj.names:Nat)+(nL bA a.obj.values:Nat)+1+(nL bu a.obj.resp.fields:Nat)+1+1)⟩
def WM(a:Rp):Nat:=13+nL bu a.q.fields+nL bu a.resp.fields+nL bA a.obj.names+nL bA a.obj.values+nL bu a.obj.resp.fields
def Cf(a:Rq)(k:Int):Rq:=⟨a.method,a.path,dY o8 bu a.fields (k),a.body⟩
@[simp] def amh(a:Rq)(k:Int):(Cf a k).method=a.method:=rfl
@[simp] def ami(a:Rq)(k:Int):(Cf a k).path=a.path:=rfl
@[simp] def amg(a:Rq)(k:Int):(Cf a k).body=a.body:=rfl
def K9(a:Rq):Nat:=nL bu a.fields
def yq(a:aU)(k:Int):aU:=⟨a.status,dY o8 bu a.fields (k),a.body⟩
@[simp] def amk(a:aU)(k:Int):(yq a k).status=a.status:=rfl
@[simp] def amj(a:aU)(k:Int):(yq a k).body=a.body:=rfl
def afw(a:aU):Nat:=nL bu a.fields
def K7(a:Ob)(k:Int):Ob:=⟨a.path,dY eH bA a.names (k),dY eH bA a.values (k+(nL bA a.names:Nat)),yq a.resp (k+(nL bA a.names:Nat)+(nL bA a.values:Nat)),a.t⟩
@[simp] def amd(a:Ob)(k:Int):(K7 a k).path=a.path:=rfl
@[simp] def ame(a:Ob)(k:Int):(K7 a k).resp=yq a.resp (k+(nL bA a.names:Nat)+(nL bA a.values:Nat)):=rfl
@[simp] def amf(a:Ob)(k:Int):(K7 a k).t=a.t:=rfl
def Sn(a:bZ)(k:Int):bZ:=⟨dY eH bA a.cells (k),dY acu NJ a.pending (k+(nL bA a.cells:Nat))⟩
def K8(a:bZ):Nat:=nL bA a.cells+nL NJ a.pending
def Cg(a:Sh)(k:Int):Sh:=⟨Sn a.bp (k),dY acq HB a.aG (k+(K8 a.bp:Nat)),dY aco NH a.aW (k+(K8 a.bp:Nat)+(nL HB a.aG:Nat)),a.next,a.seq⟩
@[simp] def aml(a:Sh)(k:Int):(Cg a k).bp=Sn a.bp (k):=rfl
@[simp] def amm(a:Sh)(k:Int):(Cg a k).next=a.next:=rfl
@[simp] def amn(a:Sh)(k:Int):(Cg a k).seq=a.seq:=rfl
def La(a:Sh):Nat:=K8 a.bp+nL HB a.aG+nL NH a.aW
def Sm(a:Ca)(k:Int):Ca:=⟨Cg a.au (k),dY acp HA a.aD (k+(La a.au:Nat)),a.now,dY acs NI a.seen (k+(La a.au:Nat)+(nL HA a.aD:Nat)),dY acr WM a.sent (k+(La a.au:Nat)+(nL HA a.aD:Nat)+(nL NI a.seen:Nat))⟩
@[simp] def al6(a:Ca)(k:Int):(Sm a k).au=Cg a.au (k):=rfl
@[simp] def al5(a:Ca)(k:Int):(Sm a k).now=a.now:=rfl
def yp(a:De)(k:Int):De:=⟨a.kind,a.client,Cf a.q (k),a.a,yq a.resp (k+(K9 a.q:Nat)),a.ia,dY QB bA a.keep (k+(K9 a.q:Nat)+(afw a.resp:Nat))⟩
@[simp] def ama(a:De)(k:Int):(yp a k).kind=a.kind:=rfl
@[simp] def al9(a:De)(k:Int):(yp a k).client=a.client:=rfl
@[simp] def amb(a:De)(k:Int):(yp a k).q=Cf a.q (k):=rfl
@[simp] def al7(a:De)(k:Int):(yp a k).a=a.a:=rfl
@[simp] def amc(a:De)(k:Int):(yp a k).resp=yq a.resp (k+(K9 a.q:Nat)):=rfl
@[simp] def al8(a:De)(k:Int):(yp a k).ia=a.ia:=rfl
end M
set_option linter.unusedVariables false
set_option linter.unusedSimpArgs false
namespace M
open Go Go.RowKit
def ox.cell[B:Bs]{w:World}(h:ox w){b k:Nat}{v:Value}(hc:B.W0.cell? ⟨b,k,none⟩=some v):w.cell? ⟨b,k,none⟩=some v:=by
  have hb:b<B.W0.heap.size:=by
    rcases fN b B.W0.heap.size with h|h;· exact h
    · simp[World.cell?,jH h] at hc
  have e:=h b hb;simpa [World.cell?,e] using hc
def U9(w:World):Below w.heap.size w w.drew:=(Below.refl _ _).drew
def Va(w:World):∀n,Below w.heap.size w (w.drewN n):=λn=>⟨rfl,rfl,rfl,de _,λ_ _=>rfl⟩
def Ci{cs:List C}{s c:ByteArray}(h:cs.map C.er=[.str s,.str c]):cs=[.str s,.str c]:=by obtain⟨a,r,rfl,h1,h2⟩:=map_cons h;obtain⟨b,r',rfl,h3,h4⟩:=map_cons h2;obtain rfl:=map_nil h4;rw[kr h1,kr h3]
def adf{cs:List C}{s:ByteArray}(h:cs.map C.er=[.str s]):cs=[.str s]:=by obtain⟨a,r,rfl,h1,h2⟩:=map_cons h;obtain rfl:=map_nil h2;rw[kr h1]
def ahL[Bs]{P:Program}{f0:FuncId}(hc:∀(s:ByteArray) (c:UInt8),c.toNat<128->∀w,s.size<=9223372036854775807->
    Calls P f0 #[.string s,.string ⟨#[c]⟩] w λe w'=>e=.returned (.string ⟨(Lib.trimB s.data.toList c).toArray⟩)/\(w'=w\/w'=w.drew)):(di f0 Gf).Sound P:=
  uR λxs r hg w zl zb cs hx hA hs=>by
    unfold Gf at hg;split at hg
    · rename_i s c
      split at hg
      · rename_i hh
        cases hg
        obtain rfl:=Ci hx
        have e:c=⟨#[32]⟩:=by have:=dw List.toArray hh.1;simp at this;cases c;simp at this;rw[this]
        subst e
        refine(hc s 32 (by decide) w hh.2).mono λe w' ⟨he,hw⟩=>⟨.str ⟨(jg s.data.toList).toArray⟩,he,rfl,?_,zy ?_⟩
        · rcases hw with rfl|rfl
          · exact Below.refl _ _
          · exact U9 _
        · have:=Sr s.data.toList
          have h2:=hh.2
          simp only[ByteArray.size] at h2⊢
          simp at this⊢
          omega
      · cases hg
    · cases hg
def ae8[B:Bs]{P:Program}{f0:FuncId}{g1:Nat}{t9:TypeId}(hm:∃m,B.W0.cell? ⟨g1,0,none⟩=some (.int .i64 m))(hc:∀(s sep:ByteArray) (m:Int) (w:World),s.size<4294967281->w.cell? ⟨g1,0,none⟩=some (.int .i64 m)->1<=sep.size->
    Calls P f0 #[.string s,.string sep] w λe w'=>e=.returned (.slice (some ⟨w.heap.size,0,none⟩) (Lib.countB s sep+1) (Lib.countB s sep+1))/\w'=w.alloc (.cells ((Lib.splitB sep 0 (Lib.countB s sep) s).map Value.string).toArray t9)):(di f0 B6).Sound P:=
  uR λxs r hg w zl zb cs hx hA hs=>by
    unfold B6 at hg;split at hg
    · rename_i s c
      split at hg
      · rename_i hh
        cases hg
        obtain rfl:=Ci hx
        obtain⟨m,hm⟩:=hm
        have hlen:=Lib.splitB_all c hh.2 0 _ s rfl
        have Pp:=Lib.splitB_data c 0 (Lib.countB s c) s
        refine(hc s c m w hh.1 (hs.cell hm) hh.2).mono λe w' ⟨he,hw⟩=>?_
        subst hw
        refine⟨.row .own 1 (some (w.heap.size,0,none)) (Lib.splitB c 0 (Lib.countB s c) s).length (Lib.splitB c 0 (Lib.countB s c) s).length λi _=>.str ((Lib.splitB c 0 (Lib.countB s c) s).getD i ByteArray.empty),?_,?_,?_,?_⟩
        · rw[he,hlen];rfl
        · rw[aet]
          unfold FX
          congr 1
          have:Lib.split s.data.toList c.data.toList=(Lib.splitB c 0 (Lib.countB s c) s).map (·.data.toList):=Pp.symm
          rw[this,cH]
          refine cu λx _=>?_
          simp
        · exact(Below.refl _ _).alloc (de _) _
        · refine ZU (de _) (t:=t9) ?_ λx hx=>?_
          · show (w.heap.push _)[w.heap.size]?=_
            simp
          · have h1:x.data.toList∈Lib.splitK c.data.toList 0 (Lib.countB s c) s.data.toList:=by rw[<-Pp];exact j8 hx
            have h2:∀(k:Nat) (l:List UInt8),∀y∈Lib.splitK c.data.toList 0 k l,y.length<=l.length:=by
              intro k;induction k with
              |zero=>intro l y hy;simp[Lib.splitK] at hy;rw[hy];exact de _
              |succ k ih=>
                intro l y hy;unfold Lib.splitK at hy;split at hy;· rw[fG.1 hy];exact de _
                · rcases bO.1 hy with rfl|hy
                  · simp
                    omega
                  · have:=ih _ _ hy;simp at this;omega
            have h3:=h2 _ _ _ h1
            have h4:=hh.1
            have e1:s.size=s.data.toList.length:=Lib.size_eq _
            have e2:x.size=x.data.toList.length:=Lib.size_eq _
            omega
      · cases hg
    · cases hg
def Dh(s c:ah):(Lib.cut s c).1.length<=s.length/\(Lib.cut s c).2.1.length<=s.length:=by
  unfold Lib.cut;split;· simp;omega
  · simp
def WU[B:Bs]{P:Program}{f0:FuncId}{g1:Nat}(hm:∃m,B.W0.cell? ⟨g1,0,none⟩=some (.int .i64 m))(hc:∀(s sep:ByteArray) (m:Int) (w:World),s.size<4294967281->w.cell? ⟨g1,0,none⟩=some (.int .i64 m)->
    Calls P f0 #[.string s,.string sep] w λe w'=>e=.returned (.tuple #[.string ⟨(Lib.cut s.data.toList sep.data.toList).1.toArray⟩,.string ⟨(Lib.cut s.data.toList sep.data.toList).2.1.toArray⟩,.bool (Lib.cut s.data.toList sep.data.toList).2.2])/\∃n,w'=w.drewN n):(di f0 Df).Sound P:=
  uR λxs r hg w zl zb cs hx hA hs=>by
    unfold Df at hg;split at hg
    · rename_i s c
      split at hg
      · rename_i hh
        cases hg
        obtain rfl:=Ci hx
        obtain⟨m,hm⟩:=hm
        have hl:=Dh s.data.toList c.data.toList
        refine(hc s c m w hh (hs.cell hm)).mono λe w' ⟨he,n,hw⟩=>?_
        subst hw
        refine⟨lW [.str ⟨(Lib.cut s.data.toList c.data.toList).1.toArray⟩,.str ⟨(Lib.cut s.data.toList c.data.toList).2.1.toArray⟩,.bool (Lib.cut s.data.toList c.data.toList).2.2],?_,?_,Va _ n,Ib λx hx=>?_⟩
        · rw[he,Lh];rfl
        · rw[Lg];rfl
        · have hz:s.data.toList.length<=4294967281:=by
            have e1:s.size=s.data.toList.length:=Lib.size_eq _
            omega
          simp only[bO,mY,nj] at hx
          rcases hx with rfl|rfl|rfl
          · exact⟨zy (by simp only[ByteArray.size,mZ];omega),trivial,λ_ _ h=>h⟩
          · exact⟨zy (by simp only[ByteArray.size,mZ];omega),trivial,λ_ _ h=>h⟩
          · exact⟨DB,trivial,λ_ _ h=>h⟩
      · cases hg
    · cases hg
def acK[B:Bs]{P:Program}{f0:FuncId}(hc:∀(s:ByteArray) (w:World),ox w->s.size<=9223372036854775807->
    Calls P f0 #[.string s] w λe w'=>e=.returned (.tuple #[.int .i64 (((cy s.data.toList).getD 0:Nat):Int),.bool (cy s.data.toList).isSome])/\Below w.heap.size w w'):(di f0 FM).Sound P:=
  uR λxs r hg w zl zb cs hx hA hs=>by
    unfold FM at hg;split at hg
    · rename_i s
      split at hg
      · rename_i hh
        cases hg
        obtain rfl:=adf hx
        refine(hc s w hs hh).mono λe w' ⟨he,hw⟩=>?_
        refine⟨lW [.int .i64 (((cy s.data.toList).getD 0:Nat):Int),.bool (cy s.data.toList).isSome],?_,?_,hw,Ib λx hx=>?_⟩
        · rw[he,Lh];rfl
        · rw[Lg];cases cy s.data.toList<;>rfl
        · simp only[bO,mY,nj] at hx
          rcases hx with rfl|rfl
          · exact⟨ZT,trivial,λ_ _ h=>h⟩
          · exact⟨DB,trivial,λ_ _ h=>h⟩
      · cases hg
    · cases hg
def abG[B:Bs]{P:Program}{f0:FuncId}(htab:Lib.TabIs P B.W0 "internal/strconv.uint64pow10" .u64 Lib.pow10Tab) (hc:∀(n:Int),-9223372036854775808<=n->n<=9223372036854775807->∀w,Lib.TabIs P w "internal/strconv.uint64pow10" .u64 Lib.pow10Tab->
    Calls P f0 #[.int .i64 n] w λe w'=>e=.returned (.string ⟨(Lib.itoa n).toArray⟩)/\∃k os,w'=Sort.grow (w.drewN k) os):(gO f0 Bw).Sound P:=
  Z1 λxs r h w hw=>by
    unfold Bw at h;split at h
    · rename_i n
      split at h
      · rename_i Pm
        cases h
        exact hc n Pm.1 Pm.2 w (TabIs.same htab hw)
      · cases h
    · cases h
end M
set_option linter.unusedVariables false
namespace Go.Proofs
open Go.RowKit
def afr{P:Program}{w w':World}{n:String}{k:IntKind}{zs:List Int}(h:Lib.TabIs P w n k zs)(hw:Below w.heap.size w w'):Lib.TabIs P w' n k zs:=by
  unfold Lib.TabIs World.var? at h⊢;cases hg:P.globalNamed n with
  |none=>rw[hg] at h;cases h
  |some g=>
    rw[hg] at h;simp only[jj] at h⊢
    have hlt:g<w.heap.size:=by
      rcases fN g w.heap.size with h'|h';· exact h'
      · rw[jH h'] at h;cases h
    rw[hw.block g hlt];exact h
def SA[B:M.Bs]{P:Program}{w:World}{n:String}{cs:Array Value}(h:B.W0.var? P n=some cs)(hw:M.ox w):w.var? P n=some cs:=by
  unfold World.var? at h⊢;cases hg:P.globalNamed n with
  |none=>rw[hg] at h;cases h
  |some g=>
    rw[hg] at h;simp only[jj] at h⊢
    have hlt:g<B.W0.heap.size:=by
      rcases fN g B.W0.heap.size with h'|h';· exact h'
      · rw[jH h'] at h;cases h
    rw[hw g hlt];exact h
def Z2(w:World)(k:Nat)(os:Array Obj):Below w.heap.size w (Sort.grow (w.drewN k) os):=
  ⟨rfl,rfl,rfl,by simp[Sort.grow,World.drewN],λb hb=>by show (w.heap++os)[b]?=w.heap[b]?;exact L5 hb⟩
def pq(v:Int)(l:List UInt8):Bool:=decide (0<=v/\v<=1000000/\Lib.itoa v=l)
def xW(v:Int)(l:List UInt8):Int:=if pq v l=true then v else 0
def acI{P:Program}{f a:FuncId}{s:ByteArray}{w:World}(hmax:s.size<=9223372036854775807)
    (aaT:7<s.size->Calls P f #[.string s] w λe w'=>e=.returned (.tuple #[.int .i64 0,.bool false])/\w'=w)
    (hok:¬7<s.size->∀v,Lib.atoiAll s.data.toList=.ok v->Calls P f #[.string s] w λe w'=>e=.returned (.tuple #[.int .i64 (xW v s.data.toList),.bool (pq v s.data.toList)])/\Below w.heap.size w w')
    (aas:¬7<s.size->(∀v,Lib.atoiAll s.data.toList≠.ok v)->Calls P f #[.string s] w λe w'=>e=.returned (.tuple #[.int .i64 0,.bool false])/\Below w.heap.size w w'):
    Calls P f #[.string s] w λe w'=>e=.returned (.tuple #[.int .i64 (((M.cy s.data.toList).getD 0:Nat):Int),.bool (M.cy s.data.toList).isSome])/\Below w.heap.size w w':=by
  have hl:s.size=s.data.toList.length:=Lib.size_eq _;by_cases h:7<s.size
  · rw[M.acM _ (by omega)]
    exact(aaT h).mono λe w' ⟨he,hw⟩=>⟨he,hw▸Below.refl _ _⟩
  by_cases hv:∃v,Lib.atoiAll s.data.toList=.ok v
  · obtain⟨v,hv⟩:=hv
    rw[<-M.acL _ _ hv]
    refine(hok h v hv).mono λe w' ⟨he,hw⟩=>⟨?_,hw⟩
    rw[he]
    by_cases hb:pq v s.data.toList=true
    · have hb':=hb
      unfold pq at hb'
      rw[bx] at hb'
      rw[xW,aq hb,hb,aq hb']
      simp;omega
    · have hb':=hb
      unfold pq at hb'
      rw[bx] at hb'
      rw[xW,az hb,az hb']
      simp[hb]
  · have eO:∀v,Lib.atoiAll s.data.toList≠.ok v:=λv e=>hv ⟨v,e⟩
    rw[M.acN _ eO]
    exact aas h eO
def alV{H:Type}{enc:TypeId×Value->H}{a:Assume}{C:Checked}{os:Os}{f:FuncId}{fn:Func}{s:ChangeSpec}{conds:List PathCond}{apart fresh handsOn again:Bool}{X:World->Array Value->Prop}
    (hX:∀(w w':World) (args:Array Value),w.heap=w'.heap->X w args->X w' args)
    (own:ownKnob C.prog.godebug=none)(started:os.Started)(noInit:C.prog.inits.idxOf? f=none)(hfn:C.prog.funcs[f]?=some fn)
    (witness:∃(w:World) (tape:Tape) (i:Input),w.os=os/\(w.forCall tape i).Shaped C.prog/\i.vars=[]/\Input.okWide C.prog (w.forCall tape i) .any w.heap.size f i/\
      ((s.pre enc C.prog fn conds apart (w.forCall tape i).memory i.args/\X (w.forCall tape i).memory i.args)/\sizedMet enc C.prog fn (OpenSpec.ofChange s) apart (w.forCall tape i).memory i.args)/\a.holds C.prog (lone (Frame.enter C.prog f i.args .normal) [] (w.forCall tape i)))
    (contract:∀(W:World) (base:Nat) (args:Array Value) (ds gs:List (DataW H)) (before:List MemPlace),
      (∀(j:Nat) t v,fn.params[j]?=some t->args[j]?=some v->Value.okWide C.prog W .any base t v)->
      DataW.Whole enc C.prog fn.params.toList s.vars apart W args.toList ds gs before->
      conds.all (PathCond.test C.prog ⟨fn.params.toList,ds,s.plain.varTypes C.prog,gs⟩)=true->
      (DataW.weightsEach C.prog (fn.params.toList++s.plain.varTypes C.prog) (ds++gs)).all (· <=reachBytes)=true->X W args->
      W.ShapedOpen C.prog->
      a.holds C.prog (lone (Frame.enter C.prog f args .normal) [] W)->
      Calls C.prog f args W λe W'=>∃v,e=.returned v/\s.post enc C.prog fn apart fresh handsOn again W args v W'):
    ReturnsInHanded a C os f .any (λw args=>(s.pre enc C.prog fn conds apart w args/\X w args)/\sizedMet enc C.prog fn (OpenSpec.ofChange s) apart w args) (s.post enc C.prog fn apart fresh handsOn again):=by refine returnsInHanded_of_calls own started noInit witness ?_;intro w tape i _ hsh _ hok hpre hholds;obtain⟨_,_,_,fn',aaF,_,_,_,_,hval⟩:=hok;have e:fn'=fn:=gV (aaF.symm.trans hfn);subst e;obtain⟨⟨⟨ds,gs,before,hw,hc⟩,hx⟩,hz⟩:=hpre;have hw':=DataW.Whole.of_heap (w':=w.forCall tape i) (by rfl) hw;refine(contract (w.forCall tape i) w.heap.size i.args ds gs before hval hw' hc (hz.weights hw) (hX _ _ _ (by rfl) hx) hsh hholds).mono λe W' ⟨v,he,hp⟩=>?_;subst he;exact ChangeSpec.post_blind hp
end Go.Proofs
set_option linter.unusedVariables false
set_option linter.unusedSimpArgs false
namespace M
open Go Go.RowKit
def ahM(s c:ah):(Lib.trimPrefix s c).length<=s.length:=by
  unfold Lib.trimPrefix;split;· simp
  · exact de _
def WV[B:Bs]{P:Program}{f0:FuncId}(hc:∀(s p:ByteArray) (w:World),
    Calls P f0 #[.string s,.string p] w λe w'=>e=.returned (.tuple #[.string ⟨(Lib.trimPrefix s.data.toList p.data.toList).toArray⟩,.bool (Lib.hasPrefix s.data.toList p.data.toList)])/\w'=w):(di f0 Dg).Sound P:=
  uR λxs r hg w zl zb cs hx hA hs=>by
    unfold Dg at hg;split at hg
    · rename_i s c
      split at hg
      · rename_i hh
        cases hg
        obtain rfl:=Ci hx
        have hl:=ahM s.data.toList c.data.toList
        refine(hc s c w).mono λe w' ⟨he,hw⟩=>?_
        subst hw
        refine⟨lW [.str ⟨(Lib.trimPrefix s.data.toList c.data.toList).toArray⟩,.bool (Lib.hasPrefix s.data.toList c.data.toList)],?_,?_,Below.refl _ _,Ib λx hx=>?_⟩
        · rw[he,Lh];rfl
        · rw[Lg];rfl
        · have e1:s.size=s.data.toList.length:=Lib.size_eq _
          simp only[bO,mY,nj] at hx
          rcases hx with rfl|rfl
          · exact⟨zy (by simp only[ByteArray.size,mZ];omega),trivial,λ_ _ h=>h⟩
          · exact⟨DB,trivial,λ_ _ h=>h⟩
      · cases hg
    · cases hg
end M
set_option linter.unusedVariables false
set_option linter.unusedSimpArgs false
namespace M
open Go Go.RowKit
def aap[B:Bs]{P:Program}{f0:FuncId}(hc:∀(s p:ByteArray) (w:World),
    Calls P f0 #[.string s,.string p] w λe w'=>e=.returned (.bool (Lib.hasPrefix s.data.toList p.data.toList))/\w'=w):(di f0 DQ).Sound P:=
  uR λxs r hg w zl zb cs hx hA hs=>by
    unfold DQ at hg;split at hg
    · rename_i s c
      cases hg
      obtain rfl:=Ci hx
      refine(hc s c w).mono λe w' ⟨he,hw⟩=>?_
      subst hw
      exact⟨.bool (Lib.hasPrefix s.data.toList c.data.toList),he,rfl,Below.refl _ _,DB⟩
    · cases hg
end M
set_option linter.unusedVariables false
set_option linter.unusedSimpArgs false
namespace M
open Go Go.RowKit
def ju(l:List (ByteArray×ByteArray)):List UInt8:=l.flatMap λf=>f.1.data.toList++[58,32]++f.2.data.toList++[13,10]
def OW{l:List (ByteArray×ByteArray)}{k:Nat}(h:k<l.length):ju (l.take (k+1))=ju (l.take k)++(l[k].1.data.toList++[58,32]++l[k].2.data.toList++[13,10]):=by unfold ju;rw[yE h,GF];simp only[jk,L7,rB]
def ZX{l:List (ByteArray×ByteArray)}{k:Nat}(h:k<l.length):(ju (l.take k)).length+l[k].1.size+2+l[k].2.size+2<=(ju l).length:=by
  have e:ju l=ju (l.take (k+1))++ju (l.drop (k+1)):=by unfold ju;rw[<-GF,CA]
  rw[e,OW h];simp only[fO,cV,jl];have h1:l[k].1.data.toList.length=l[k].1.size:=by rw[Cw];rfl
  have h2:l[k].2.data.toList.length=l[k].2.size:=by rw[Cw];rfl
  omega
def DA(f:aH):ByteArray×ByteArray:=(⟨f.name.toArray⟩,⟨f.value.toArray⟩)
def OV(l:List aH):ju (l.map DA)=ku l:=by unfold ju ku;rw[List.flatMap_map];rfl
def XH:∀{rows:List (List X)} {l:List aH},rZ rows=some l->rows=l.map aR:=by
  intro rows;induction rows with
  |nil=>intro l h;simp[rZ] at h;subst h;rfl
  |cons r rows ih=>
    intro l h;match r,h with
    |[.str a,.str b],h=>
      simp only[rZ] at h;cases hs:rZ rows with
      |none=>rw[hs] at h;simp at h
      |some l'=>rw[hs] at h;simp at h;subst h;rw[ih hs];simp
def Xu[B:Bs]{P:Program}{f0:FuncId}
    (hc:∀(A:Option Addr) (cap:Nat) (fs:List (ByteArray×ByteArray)) (w:World),
      (∀i f,fs[i]?=some f->∃g o,A=some ⟨g,o,none⟩/\g<w.heap.size/\w.cell? ⟨g,o+i*2,none⟩=some (.string f.1)/\w.cell? ⟨g,o+i*2+1,none⟩=some (.string f.2))->
      (ju fs).length<=140737488355328->fs.length<=140737488355328->
      Calls P f0 #[.slice A fs.length cap] w λe w'=>e=.returned (.string ⟨(ju fs).toArray⟩)/\Below w.heap.size w w'):(di f0 Dv).Sound P:=
  uR λxs r hg w zl zb cs hx hA hs=>by
    unfold Dv at hg;split at hg
    · rename_i rows
      split at hg
      · rename_i l hl
        split at hg
        · rename_i hh
          cases hg
          obtain⟨c1,r1,rfl,h1,h2⟩:=map_cons hx
          obtain rfl:=map_nil h2
          obtain⟨A,len,cap,e,rfl,hlen,hrow⟩:=ua h1
          have hrows:=XH hl
          have uk:len=l.length:=by rw[hlen,hrows];simp
          have ok:=hA.ok _ (bz ..)
          obtain⟨k1,k2,k3,k4,k5⟩:=ok
          have hcell:∀i f,(l.map DA)[i]?=some f->∃g o,(A.map λq=>(⟨q.1,q.2.1,q.2.2⟩:Addr))=some ⟨g,o,none⟩/\g<w.heap.size/\w.cell? ⟨g,o+i*2,none⟩=some (.string f.1)/\w.cell? ⟨g,o+i*2+1,none⟩=some (.string f.2):=by
            intro i f hi;have hi2:i<l.length:=by have:=aQ.1 hi;simpa using this.1
            obtain⟨g,o,k9,h0,_⟩:=k2 i 0 (by omega) (by omega);obtain⟨g',o',O9,h0',_⟩:=k2 i 1 (by omega) (by omega);rw[k9] at O9;cases O9;have hr:=hrow i (by omega);rw[hrows,cS,cm hi2] at hr;rw[cS,cm hi2] at hi;simp[l9,DA] at hr hi;obtain⟨r1,r2⟩:=hr;have q1:=kr r1.symm;have q2:=kr r2.symm;rw[q1] at h0;rw[q2] at h0';subst hi;refine⟨g,o,by rw[k9];rfl,?_,by simpa [C.val] using h0,by simpa [C.val] using h0'⟩;rcases fN g w.heap.size with h|h;· exact h
            · simp[World.cell?,jH h] at h0
          have key:=hc (A.map λq=>(⟨q.1,q.2.1,q.2.2⟩:Addr)) cap (l.map DA) w hcell (by rw[OV];exact hh.1) (by simpa using hh.2)
          rw[OV,cW,<-uk] at key
          refine Calls.mono key λe w' ⟨he,hb⟩=>?_
          exact⟨.str ⟨(ku l).toArray⟩,he,rfl,hb,zy (by have:=hh.1;simp only[ByteArray.size,mZ];omega)⟩
        · cases hg
      · cases hg
    · cases hg
end M
set_option linter.unusedVariables false
set_option linter.unusedSimpArgs false
namespace M
open Go
def iI{β γ ε:Type}(go:Nat->γ->β->γ ⊕ ε):Nat->List β->γ->γ ⊕ ε
  |_,[],g=>.inl g
  |i,b::l,g=>match go i g b with
    |.inl g'=>iI go (i+1) l g'
    |.inr e=>.inr e
def Qq{xt:Nat}{β γ ε:Type}{f:ag->cI}(l:List β)(st:Nat->γ->ag)(go:Nat->γ->β->γ ⊕ ε)(E:γ->ag)(R:ε->Ex×ag)(Inv:Nat->γ->Prop)(g:γ)(h0:Inv 0 g)
    (h:∀i b g,l[i]?=some b->i<l.length->Inv i g->f (st i g)=(match go i g b with|.inl g'=>some (.normal,st (i+1) g')|.inr e=>lv (R e)))
    (hI:∀i b g g',l[i]?=some b->Inv i g->go i g b=.inl g'->Inv (i+1) g')
    (hend:∀g,Inv l.length g->f (st l.length g)=some (.exit xt,E g)):
    aX f (st 0 g)=(match iI go 0 l g with|.inl g'=>some (.exit xt,E g')|.inr e=>lv (R e)):=by
  suffices H:∀(r:List β) (i:Nat) (g:γ),Inv i g->l.drop i=r->i<=l.length->aX f (st i g)=(match iI go i r g with|.inl g'=>some (.exit xt,E g')|.inr e=>lv (R e)) from H l 0 g h0 rfl (tj _)
  intro r;induction r with
  |nil=>
    intro i g hi hr hl;have:i=l.length:=by have:=dw List.length hr;simp at this;omega
    subst this;rw[eP,hend g hi];rfl
  |cons b r ih=>
    intro i g hi hr hl
    have hlt:i<l.length:=by
      rcases fN i l.length with h|h;· exact h
      · rw[L2 h] at hr;cases hr
    have hd:=nq hlt;rw[hr] at hd;have hb:l[i]?=some b:=by rw[cm hlt];cases hd;rfl
    have hr':l.drop (i+1)=r:=by cases hd;rfl
    rw[eP,h i b g hb hlt hi];unfold iI;cases hg:go i g b with
    |inl g'=>exact ih (i+1) g' (hI i b g g' hb hi hg) hr' hlt
    |inr e=>rcases hR:R e with ⟨x,s⟩;cases x<;>simp[fM,lv,hR]
def RC{β γ ε:Type}{go:Nat->γ->β->γ ⊕ ε}{I:Nat->γ->Prop}{O:ε->Prop}(n:Nat)(h:∀i g b,i<n->I i g->(∀g',go i g b=.inl g'->I (i+1) g')/\∀e,go i g b=.inr e->O e):∀(l:List β) (i:Nat) (g:γ),i+l.length=n->I i g->(∀g',iI go i l g=.inl g'->I n g')/\∀e,iI go i l g=.inr e->O e
  |[],i,g,hn,hg=>by
    have:i=n:=by simpa using hn
    subst this;exact⟨λg' e=>by cases e;exact hg,λe h=>by cases h⟩
  |b::l,i,g,hn,hg=>by
    have h1:=h i g b (by simp at hn;omega) hg;rw[iI];cases nK:go i g b with
    |inl g'=>exact RC n h l (i+1) g' (by simp at hn;omega) (h1.1 g' nK)
    |inr e=>exact⟨λg' e=>(by cases e),λe he=>(by cases he;exact h1.2 _ nK)⟩
end M
set_option linter.unusedVariables false
set_option linter.unusedSimpArgs false
namespace M
open Go
def crlf:ah:=[13,10]
def ck:ah:=[13,10,13,10]
def cv(c:UInt8)(s:ah):Prop:=∀b∈s,b≠c
def j0{c:UInt8}{s t:ah}:cv c (s++t)↔cv c s/\cv c t:=by
  unfold cv;constructor
  · intro h
    exact⟨λb hb=>h b (Mk _ hb),λb hb=>h b (Ml _ hb)⟩
  · intro h b hb
    rcases fP.1 hb with hb|hb
    · exact h.1 b hb
    · exact h.2 b hb
def uS{c b:UInt8}{s:ah}:cv c (b::s)↔b≠c/\cv c s:=by simp[cv]
def Fk(c:UInt8)(t:ah):∀(l r:ah),cv c l->Lib.index (l++r) (c::t)=if Lib.index r (c::t)=-1 then -1 else Lib.index r (c::t)+l.length
  |[],r,_=>by simp only[j9,jl];split<;>simp_all
  |b::l,r,h=>by
    rw[uS] at h;have ih:=Fk c t l r h.2;have hge:=Lib.index_ge r (c::t);rw[gE,Lib.index,ih];have hcb:(c==b)=false:=by simp;exact λe=>h.1 e.symm
    have hp:(c::t).isPrefixOf (b::(l++r))=false:=by simp[List.isPrefixOf,hcb]
    rw[hp];simp only[iw,gW,cV];by_cases g:Lib.index r (c::t)=-1;· simp[g]
    · have g2:¬(Lib.index r (c::t)+l.length=-1):=by omega
      simp only[g,gW,ei,g2]
      omega
def abA(c:UInt8)(t:ah)(l:ah)(h:cv c l):Lib.index l (c::t)=-1:=by have:=Fk c t l [] h;rw[rB] at this;rw[this];rfl
def JT(c:UInt8)(t:ah)(l r:ah)(h:cv c l):Lib.index (l++(c::t++r)) (c::t)=l.length:=by
  have h0:Lib.index (c::t++r) (c::t)=0:=by rw[gE,Lib.index,aq (by simp)]
  rw[Fk c t l _ h,h0];simp
def NR(c:UInt8)(t:ah)(l r:ah)(h:cv c l):Lib.cut (l++(c::t++r)) (c::t)=(l,r,true):=by
  unfold Lib.cut;rw[JT c t l r h,aq (by omega)];have e1:((l.length:Int)).toNat=l.length:=by omega
  rw[e1,LP];have e2:l++(c::t++r)=(l++c::t)++r:=by simp
  have e3:l.length+(c::t).length=(l++c::t).length:=by simp
  rw[e2,e3,GD]
def ae7(c:UInt8)(t:ah)(n:Nat)(l:ah)(h:cv c l):Lib.splitK (c::t) 0 n l=[l]:=by
  cases n with
  |zero=>rfl
  |succ n=>rw[Lib.splitK,abA c t l h];rfl
def afb(c:UInt8)(t:ah)(l:ah)(h:cv c l):Lib.split l (c::t)=[l]:=ae7 c t _ l h
def ae9(c:UInt8)(t:ah)(l r:ah)(h:cv c l):Lib.split (l++(c::t++r)) (c::t)=l::Lib.split r (c::t):=by
  have hi:=JT c t l r h;have e2:l++(c::t++r)=(l++c::t)++r:=by simp
  have e3:l.length+(c::t).length=(l++c::t).length:=by simp
  have hd:(l++(c::t++r)).drop (l.length+(c::t).length)=r:=by rw[e2,e3,GD]
  have hc:=Lib.count_hit (s:=l++(c::t++r)) (sub:=c::t) (by simp) hi;rw[hd] at hc;unfold Lib.split;rw[hc,rj,Lib.splitK,hi];have g:¬(((l.length:Int))==-1)=true:=by simp
  rw[az g];have e1:((l.length:Int)).toNat=l.length:=by omega
  rw[e1,hd,nh,LP]
def lines:List ah->ah
  |[]=>[]
  |[l]=>l
  |l::k::ls=>l++(crlf++lines (k::ls))
def Qk:∀(ls:List ah),ls≠[]->(∀l∈ls,cv 13 l)->Lib.split (lines ls) crlf=ls
  |[l],_,h=>afb 13 [10] l (h l (bz ..))
  |l::k::ls,_,h=>by have ih:=Qk (k::ls) (by simp) λx hx=>h x (cE _ hx);have:=ae9 13 [10] l (lines (k::ls)) (h l (bz ..));show Lib.split (l++(crlf++lines (k::ls))) crlf=_;rw[show crlf=13::[10] from rfl,this];rw[show (13::[10]:ah)=crlf from rfl,ih]
def ab2:∀(ls:List ah),ls≠[]->(∀l∈ls,l≠[])->(∀l∈ls,cv 13 l)->∃b t,lines ls=b::t/\b≠13
  |[l],_,h,h2=>by obtain⟨b,t,e⟩:=To (h l (bz ..));exact⟨b,t,e,h2 l (bz ..) b (by rw[e];exact bz ..)⟩
  |l::k::ls,_,h,h2=>by obtain⟨b,t,e⟩:=To (h l (bz ..));exact⟨b,t++(crlf++lines (k::ls)),by show l++_=_;rw[e];rfl,h2 l (bz ..) b (by rw[e];exact bz ..)⟩
def Qj(b:ah):∀(ls:List ah),ls≠[]->(∀l∈ls,l≠[])->(∀l∈ls,cv 13 l)->Lib.index (lines ls++(ck++b)) ck=(lines ls).length
  |[l],_,h,h2=>JT 13 [10,13,10] l b (h2 l (bz ..))
  |l::k::ls,_,h,h2=>by
    have hk:∀x∈k::ls,x≠[]:=λx hx=>h x (cE _ hx);have hk2:∀x∈k::ls,cv 13 x:=λx hx=>h2 x (cE _ hx);have ih:=Qj b (k::ls) (by simp) hk hk2;obtain⟨c,t,e,hc⟩:=ab2 (k::ls) (by simp) hk hk2;have e0:lines (l::k::ls)++(ck++b)=l++(13::10::(lines (k::ls)++(ck++b))):=by show (l++(crlf++lines (k::ls)))++(ck++b)=_;simp[crlf]
    have e1:(lines (l::k::ls)).length=l.length+2+(lines (k::ls)).length:=by show (l++(crlf++lines (k::ls))).length=_;simp[crlf];omega
    have hcb:((13:UInt8)==c)=false:=by simp;exact λe=>hc e.symm
    have p1:ck.isPrefixOf (13::10::(lines (k::ls)++(ck++b)))=false:=by rw[e];simp[ck,List.isPrefixOf,hcb]
    have p2:ck.isPrefixOf (10::(lines (k::ls)++(ck++b)))=false:=by simp[ck,List.isPrefixOf]
    have e2:Lib.index (13::10::(lines (k::ls)++(ck++b))) ck=(lines (k::ls)).length+2:=by
      rw[Lib.index,p1,Lib.index,p2,ih];have q1:¬(((lines (k::ls)).length:Int)==-1)=true:=by simp
      simp only[iw,gW,q1];have q2:¬(((lines (k::ls)).length:Int)+1==-1)=true:=by simp;omega
      simp only[q2];simp;omega
    rw[e0,show ck=13::[10,13,10] from rfl,Fk 13 [10,13,10] l _ (h2 l (bz ..)),show (13::[10,13,10]:ah)=ck from rfl,e2,e1,az (by omega)];omega
def ab1(b:ah)(ls:List ah)(h0:ls≠[])(h:∀l∈ls,l≠[])(h2:∀l∈ls,cv 13 l):Lib.cut (lines ls++(ck++b)) ck=(lines ls,b,true):=by
  unfold Lib.cut;rw[Qj b ls h0 h h2,aq (by omega)];have e1:(((lines ls).length:Int)).toNat=(lines ls).length:=by omega
  have e2:lines ls++(ck++b)=(lines ls++ck)++b:=by simp
  have e3:(lines ls).length+ck.length=(lines ls++ck).length:=by simp
  rw[e1,LP,e3,e2,GD]
def pn:ah:=[72,84,84,80,47,49,46,49]
def jS(f:aH):ah:=f.name++([58,32]++f.value)
def DC(fs:List aH):ah:=fs.flatMap λf=>jS f++crlf
def mQ(b:ah):ah:=fu++([58,32]++bG b.length)
def lT(r:aU):ah:=pn++32::(bG r.status.toNat++[32,46])
def pK(r:aU):List ah:=lT r::(r.fields.map jS++[mQ r.body])
def lS(r:aU):ah:=lines (pK r)++(ck++r.body)
def jd(r:aU):ah:=if eZ r=true then lS r else []
def ZV(fs:List aH):ku fs=DC fs:=by unfold ku DC;congr 1;funext f;simp[HR,jS,crlf]
def ab0(fs:List aH)(l z:ah):lines (l::(fs.map jS++[z]))=l++(crlf++(DC fs++z)):=by
  induction fs generalizing l with
  |nil=>rfl
  |cons f fs ih=>show l++(crlf++lines (jS f::(fs.map jS++[z])))=_;rw[ih];simp[DC]
def Ry(r:aU):lS r=lT r++(crlf++(ku r.fields++(mQ r.body++(ck++r.body)))):=by unfold lS pK;rw[ab0,ZV];simp
def rS(c:UInt8)(hc:c.toNat<48\/57<c.toNat)(n:Nat):cv c (bG n):=by intro b hb e;have:=jM.1 (NT n) b hb;simp only[zh,bx] at this;subst e;omega
def Ld(c:UInt8)(hc:Ch c=false){s:ah}(h:gD s=true):cv c s:=by intro b hb e;unfold gD at h;simp only[ax] at h;have:=jM.1 h.1 b hb;rw[e,hc] at this;cases this
def afx{s:ah}(h:gD s=true):s≠[]:=by rintro rfl;simp[gD] at h
def Ll(c:UInt8)(hc:pN 32 c=false){s:ah}(h:ji s=true):cv c s:=by intro b hb e;unfold ji at h;simp only[ax] at h;have:=jM.1 h.1.1 b hb;rw[e,hc] at this;cases this
def HS{fs:List aH}(h:mB fs=true){f:aH}(hf:f∈fs):gD f.name=true/\ji f.value=true/\f.name≠fu:=by unfold mB at h;simp only[ax] at h;obtain⟨i,hi,rfl⟩:=pT hf;have:=jM.1 h.1 (fs[i],i) (ri (i:=i) (by simp[hi]));unfold qi at this;simp only[ax,ru,Tl] at this;exact⟨this.1.1.1,this.1.1.2,this.2⟩
def On{fs:List aH}(h:mB fs=true):fs.length<=8:=by unfold mB at h;simp only[ax,bx] at h;omega
def Xm{f:aH}(h1:gD f.name=true)(h2:ji f.value=true):cv 13 (jS f)/\cv 10 (jS f)/\jS f≠[]:=by
  refine⟨?_,?_,?_⟩
  · unfold jS
    rw[j0,j0]
    exact⟨Ld 13 (by decide) h1,by simp[cv],Ll 13 (by decide) h2⟩
  · unfold jS
    rw[j0,j0]
    exact⟨Ld 10 (by decide) h1,by simp[cv],Ll 10 (by decide) h2⟩
  · have:=afx h1
    simp[jS]
def abY(b:ah):cv 13 (mQ b)/\cv 10 (mQ b)/\mQ b≠[]:=by
  refine⟨?_,?_,by simp[mQ]⟩
  · unfold mQ
    rw[j0,j0]
    exact⟨by simp[cv,fu],by simp[cv],rS 13 (by decide) _⟩
  · unfold mQ
    rw[j0,j0]
    exact⟨by simp[cv,fu],by simp[cv],rS 10 (by decide) _⟩
def aeA(r:aU):cv 13 (lT r)/\cv 10 (lT r)/\lT r≠[]:=by
  refine⟨?_,?_,by simp[lT,pn]⟩
  · unfold lT
    rw[j0,uS,j0]
    exact⟨by simp[cv,pn],by decide,rS 13 (by decide) _,by simp[cv]⟩
  · unfold lT
    rw[j0,uS,j0]
    exact⟨by simp[cv,pn],by decide,rS 10 (by decide) _,by simp[cv]⟩
def aeC{r:aU}(h:mB r.fields=true):∀l∈pK r,cv 13 l/\cv 10 l/\l≠[]:=by
  intro l hl;unfold pK at hl;simp only[bO,fP,aT,mY,nj] at hl;rcases hl with rfl|⟨f,hf,rfl⟩|rfl;· exact aeA r
  · have:=HS h hf
    exact Xm this.1 this.2.1
  · exact abY r.body
end M
set_option linter.unusedVariables false
set_option linter.unusedSimpArgs false
namespace M
open Go
open Classical in
noncomputable def mW{α:Type}(body:α->ah)(ok:α->Bool)(z:α)(s:ah):α×Bool:=
  if h:∃r,ok r=true/\body r=s then (h.choose,true) else (z,false)
def KJ{α:Type}{body:α->ah}{ok:α->Bool}{z:α}{cand:ah->Option α}(hc:∀r,ok r=true->cand (body r)=some r)(s:ah):
    mW body ok z s=match cand s with
      |some r=>if ok r=true/\body r=s then (r,true) else (z,false)
      |none=>(z,false):=by
  unfold mW;by_cases h:∃r,ok r=true/\body r=s
  · rw[oq h]
    have h1:=h.choose_spec
    have h2:=hc _ h1.1
    rw[h1.2] at h2
    rw[h2]
    simp only
    rw[aq h1]
  · rw[CC h]
    cases hs:cand s with
    |none=>rfl
    |some r=>
      simp only
      rw[az]
      exact λhr=>h ⟨r,hr⟩
def Re{α:Type}{body:α->ah}{ok:α->Bool}{z:α}{s:ah}(h:(mW body ok z s).2=true):ok (mW body ok z s).1=true/\body (mW body ok z s).1=s:=by
  unfold mW at h⊢;by_cases g:∃r,ok r=true/\body r=s;· rw[oq g];exact g.choose_spec
  · rw[CC g] at h;cases h
def Rc{α:Type}{body:α->ah}{ok:α->Bool}{z:α}{s:ah}(h:(mW body ok z s).2=false):mW body ok z s=(z,false):=by
  unfold mW at h⊢;by_cases g:∃r,ok r=true/\body r=s;· rw[oq g] at h;cases h
  · rw[CC g]
def aef{α:Type}{body:α->ah}{ok:α->Bool}{z:α}{cand:ah->Option α}(hc:∀r,ok r=true->cand (body r)=some r){r:α}(h:ok r=true):mW body ok z (body r)=(r,true):=by rw[KJ hc,hc r h];simp only;rw[aq ⟨h,trivial⟩]
def colon:ah:=[58,32]
def mF:List ah->Option (List aH)
  |[]=>some []
  |l::ls=>if (Lib.cut l colon).2.2=true then (if ls=[]/\(Lib.cut l colon).1=fu then some [] else (mF ls).map λfs=>⟨(Lib.cut l colon).1,(Lib.cut l colon).2.1⟩::fs) else none
def lI(s:ah):Option (ah×List aH×ah):=
  if (Lib.cut s ck).2.2=true/\((Lib.split (Lib.cut s ck).1 crlf).length:Int)<=10 then (mF (Lib.split (Lib.cut s ck).1 crlf).tail).map λfs=>((Lib.split (Lib.cut s ck).1 crlf).headD [],fs,(Lib.cut s ck).2.1)
  else none
def vl(ws:List ah):Option ah:=match ws with
  |[_,w,_]=>some w
  |_=>none
def qW(s:ah):Option aU:=(lI s).bind λp=>(vl (ct 32 p.1)).map λw=>⟨(((cy w).getD 0:Nat):Int),p.2.1,p.2.2⟩
def fL:aU:=⟨0,[],[]⟩
noncomputable def fC(s:ah):aU×Bool:=mW lS eZ fL s
def B7(w r:ah)(h:cv 32 w):ct 32 (w++32::r)=w::ct 32 r:=by rw[F5 32 w _ h];simp[ct]
def aeB(r:aU):ct 32 (lT r)=[pn,bG r.status.toNat,[46]]:=by unfold lT;rw[B7 _ _ (by simp[cv,pn]),show ([32,46]:ah)=32::[46] from rfl,B7 _ _ (rS 32 (by decide) _),RX 32 [46] (by simp)]
def OK(b:ah):∀(fs:List aH),(∀f∈fs,gD f.name=true/\ji f.value=true/\f.name≠fu)->mF (fs.map jS++[mQ b])=some fs
  |[],_=>by have:Lib.cut (mQ b) colon=(fu,bG b.length,true):=NR 58 [32] fu (bG b.length) (by simp[cv,fu]);simp[mF,this]
  |f::fs,h=>by have hf:=h f (bz ..);have ih:=OK b fs λx hx=>h x (cE _ hx);have:Lib.cut (jS f) colon=(f.name,f.value,true):=NR 58 [32] f.name f.value (Ld 58 (by decide) hf.1);simp only[bq,gE,mF,this,ih];simp
def Rm{r:aU}(h:eZ r=true):(100<=r.status/\r.status<=599)/\mB r.fields=true/\r.body.length<=120:=by unfold eZ at h;simp only[ax,bx] at h;exact⟨h.1.1,h.1.2,by omega⟩
def RA{r:aU}(h:eZ r=true):qW (lS r)=some r:=by
  obtain⟨hs,hf,hb⟩:=Rm h;have hl:=aeC hf;have hne:pK r≠[]:=by simp[pK]
  have hc:=ab1 r.body (pK r) hne (λl h=>(hl l h).2.2) (λl h=>(hl l h).1);have hsp:=Qk (pK r) hne (λl h=>(hl l h).1);have hlen:=On hf;have hp:lI (lS r)=some (lT r,r.fields,r.body):=by unfold lI lS;rw[hc];simp only;rw[hsp,aq ⟨trivial,by simp[pK];omega⟩];have ht:(pK r).tail=r.fields.map jS++[mQ r.body]:=rfl;rw[ht,OK r.body r.fields λf hf'=>HS hf hf'];rfl
  unfold qW;rw[hp];simp only[jj];rw[aeB];have hn:cy (bG r.status.toNat)=some r.status.toNat:=uT.2 ⟨by omega,rfl⟩;simp only[vl,cC,hn,vC];have:((r.status.toNat:Nat):Int)=r.status:=by omega
  rw[this]
def Rr{r:aU}{s:ah}(hs:s≠[]):jd r=s↔eZ r=true/\lS r=s:=by
  unfold jd;constructor
  · intro h
    split at h
    · rename_i g;exact⟨g,h⟩
    · exact absurd h.symm hs
  · rintro ⟨g,h⟩
    rw[aq g,h]
def Rz(r:aU):lS r≠[]:=by rw[Ry];simp[lT,pn]
def Ro(r:aU):jd r=[]↔¬eZ r=true:=by unfold jd;have:=Rz r;split<;>simp_all
def ael(s:ah):fC s=match qW s with
    |some r=>if jd r=s/\s≠[] then (r,true) else (fL,false)
    |none=>(fL,false):=by
  unfold fC;rw[KJ (cand:=qW) (λr h=>RA h) s];cases qW s with
  |none=>rfl
  |some r=>
    simp only;by_cases hs:s=[]
    · subst hs
      rw[az (λh=>Rz r h.2),az (by simp)]
    · by_cases g:jd r=s
      · rw[aq ((Rr hs).1 g),aq ⟨g,hs⟩]
      · rw[az (mt (Rr hs).2 g),az (λh=>g h.1)]
def pg:ah:=[111,98,106]
def sV(o:Ob):ah:=pg++32::(o.path++32::(dZ o.t++32::bG o.values.length))
def mX(l:List ah):ah:=l.flatMap λv=>v++[10]
def pz(o:Ob):ah:=sV o++10::(mX o.values++lS o.resp)
def fy(o:Ob):ah:=if dJ o=true then pz o else []
def iX:Ob:=⟨[],[],[],fL,0⟩
noncomputable def jD(s:ah):Ob×Bool:=mW pz dJ iX s
def fV(s:ah):ah×ah:=(eu 10 s).getD (s,[])
def ef:Nat->ah->List ah×ah
  |0,s=>([],s)
  |n+1,s=>((fV s).1::(ef n (fV s).2).1,(ef n (fV s).2).2)
def vm(ws:List ah):Option (ah×ah×ah):=match ws with
  |[_,p,t,n]=>some (p,t,n)
  |_=>none
def WT(p r:ah)(h:cv 10 p):eu 10 (p++10::r)=some (p,r):=by
  induction p with
  |nil=>simp[eu]
  |cons b p ih=>rw[uS] at h;rw[gE,eu,az h.1,ih h.2];rfl
def NP(p r:ah)(h:cv 10 p):fV (p++10::r)=(p,r):=by unfold fV;rw[WT p r h];rfl
def Si(r:ah):∀(l:List ah),(∀v∈l,cv 10 v)->ef l.length (mX l++r)=(l,r)
  |[],_=>rfl
  |v::l,h=>by
    have e:mX (v::l)++r=v++10::(mX l++r):=by simp[mX]
    rw[e,cV,ef,NP v _ (h v (bz ..)),Si r l λx hx=>h x (cE _ hx)]
def SE(c:UInt8){lo:Nat}(hc:pN lo c=false){s:ah}(h:bT (pN lo) s=true):cv c s:=by intro b hb e;have:=jM.1 h b hb;rw[e,hc] at this;cases this
def Q1{s:ah}(h:kO s=true):cv 32 s/\cv 10 s:=by unfold kO at h;simp only[ax] at h;exact⟨SE 32 (by decide) h.1.1,SE 10 (by decide) h.1.1⟩
def QI(c:UInt8)(hc:c.toNat<48\/57<c.toNat)(n:Int):cv c (dZ n):=by
  unfold dZ;split;· exact rS c hc _
  · simp[cv]
structure yP (o:Ob):Prop where
  resp:eZ o.resp=true
  path:kO o.path=true
  t0:0<=o.t
  t1:o.t<=1000000
  names:o9 o.names=true
  ahU:o.names=ey o.resp.fields
  len:o.values.length=o.names.length
  n4:o.names.length<=4
  vals:∀v∈o.values,ji v=true
def FO{o:Ob}(h:dJ o=true):yP o:=by
  unfold dJ at h;simp only[ax,bx] at h;have hn:o.names.length<=4:=by have:=h.1.1.1.2;unfold o9 at this;simp only[ax,bx] at this;omega
  obtain⟨⟨⟨⟨⟨⟨h1,h2⟩,h3,h4⟩,h5⟩,h6⟩,h7⟩,h8⟩:=h;exact⟨h1,h2,h3,h4,h5,h6,by omega,hn,λv hv=>jM.1 h8 v hv⟩
def acW{o:Ob}(h:yP o):ct 32 (sV o)=[pg,o.path,dZ o.t,bG o.values.length]:=by unfold sV;rw[B7 _ _ (by simp[cv,pg]),B7 _ _ (Q1 h.path).1,B7 _ _ (QI 32 (by decide) _),RX 32 _ (rS 32 (by decide) _)]
def acV{o:Ob}(h:yP o):cv 10 (sV o):=by unfold sV;rw[j0,uS,j0,uS,j0,uS];exact⟨by simp[cv,pg],by decide,(Q1 h.path).2,by decide,QI 10 (by decide) _,by decide,rS 10 (by decide) _⟩
def ahT{o:Ob}(h:yP o):∀v∈o.values,cv 10 v:=λv hv=>Ll 10 (by decide) (h.vals v hv)
noncomputable def BN(p:ah)(t n:Nat)(b:ah):Option Ob:=if n<=4 then (if (fC (ef n b).2).2=true then some ⟨p,ey (fC (ef n b).2).1.fields,(ef n b).1,(fC (ef n b).2).1,t⟩ else none) else none
noncomputable def xX(s:ah):Option Ob:=(vm (ct 32 (fV s).1)).bind λw=>(cy w.2.1).bind λt=>(cy w.2.2).bind λn=>BN w.1 t n (fV s).2
def ac2{o:Ob}(h:yP o):BN o.path o.t.toNat o.values.length (mX o.values++lS o.resp)=some o:=by
  have h1:=Si (lS o.resp) o.values (ahT h);have h2:fC (lS o.resp)=(o.resp,true):=aef (cand:=qW) (λr h=>RA h) h.resp;unfold BN;have hl:=h.len;have h4:=h.n4;rw[aq (by omega),h1];simp only;rw[h2,aq rfl];simp only;have ht:((o.t.toNat:Nat):Int)=o.t:=by have:=h.t0;omega
  rw[ht,<-h.ahU]
def acT{o:Ob}(ho:dJ o=true):xX (pz o)=some o:=by
  have h:=FO ho;unfold xX pz;rw[NP _ _ (acV h)];simp only;rw[acW h];have h0:=h.t0;have h1:=h.t1;have hl:=h.len;have h4:=h.n4
  have hn:cy (dZ o.t)=some o.t.toNat:=by
    have e:o.t=((o.t.toNat:Nat):Int):=by omega
    rw[e,acO _ (by omega)];simp;omega
  have hd:cy (bG o.values.length)=some o.values.length:=uT.2 ⟨by omega,rfl⟩;simp only[vm,jj,hn,hd];exact ac2 h
def acR(o:Ob):pz o≠[]:=by simp[pz,sV,pg]
def QL{o:Ob}{s:ah}(hs:s≠[]):fy o=s↔dJ o=true/\pz o=s:=by
  unfold fy;constructor
  · intro h
    split at h
    · rename_i g;exact⟨g,h⟩
    · exact absurd h.symm hs
  · rintro ⟨g,h⟩
    rw[aq g,h]
def QK(o:Ob):fy o=[]↔¬dJ o=true:=by unfold fy;have:=acR o;split<;>simp_all
def acZ{cand:ah->Option Ob}(hc:∀o,dJ o=true->cand (pz o)=some o)(hn:cand []=none)(s:ah):jD s=match cand s with
    |some o=>if fy o=s then (o,true) else (iX,false)
    |none=>(iX,false):=by
  unfold jD;rw[KJ (cand:=cand) hc s];cases hs:cand s with
  |none=>rfl
  |some o=>
    simp only;have hs0:s≠[]:=by rintro rfl;rw[hn] at hs;cases hs
    by_cases g:fy o=s;· rw[aq ((QL hs0).1 g),aq g]
    · rw[az (mt (QL hs0).2 g),az g]
def acU:xX []=none:=by simp[xX,fV,eu,ct,vm]
def acY(s:ah):jD s=match xX s with
    |some o=>if fy o=s then (o,true) else (iX,false)
    |none=>(iX,false):=acZ (λo h=>acT h) acU s
end M
set_option linter.unusedVariables false
set_option linter.unusedSimpArgs false
namespace M
open Go
end M
set_option linter.unusedVariables false
set_option linter.unusedSimpArgs false
namespace M
open Go
def ahY{α:Type}(w:α->Nat)(l:List α)(n:Nat):wL w (l.take n)<=wL w l:=by have h:l=l.take n++l.drop n:=(CA n l).symm;have h1:=dw List.length h;have h2:=dw (λl=>(l.map w).sum) h;simp only[fO] at h1;simp only[kg,List.sum_append] at h2;unfold wL;omega
end M
set_option linter.unusedVariables false
set_option linter.unusedSimpArgs false
namespace M
open Go
def OE{α:Type}{p:α->Bool}{l:List α}{i:Nat}{b:α}(h:cO p 0 l=some (i,b)):l=l.take i++b::l.drop (i+1)/\p b=true/\(l.take i).filter (λv=> !p v)=l.take i/\l.filter (λv=> !p v)=l.take i++(l.drop (i+1)).filter (λv=> !p v):=by
  obtain⟨_,h1,h2⟩:=rX h;rw[yG] at h1;obtain⟨hi,rfl⟩:=aQ.1 h1;have e:l=l.take i++l[i]::l.drop (i+1):=by rw[<-nq hi,CA]
  have hb:∀x∈l.take i,p x=false:=by
    suffices H:∀(l:List α) (k i:Nat) (b:α),cO p k l=some (k+i,b)->∀x∈l.take i,p x=false from H l 0 i _ (by simpa using h)
    intro l;induction l with
    |nil=>intro k i b h;simp[cO] at h
    |cons a l ih=>
      intro k i b h x hx;unfold cO at h;by_cases hp:p a=true
      · rw[aq hp] at h
        have:i=0:=by have:=dw (λo=>o.map Prod.fst) h;simp at this;exact this
        subst this
        simp at hx
      · rw[az hp] at h
        cases i with
        |zero=>simp at hx
        |succ i=>
          rcases bO.1 (by simpa using hx) with rfl|hx
          · simpa using hp
          · exact ih (k+1) i b (by rw[h];congr 2;omega) x hx
  have hf:(l.take i).filter (λv=> !p v)=l.take i:=L6.2 λx hx=>by simp[hb x hx]
  refine⟨e,h2,hf,?_⟩;conv=>lhs;rw[e]
  rw[List.filter_append,hf,CF];simp[h2]
end M
set_option linter.unusedVariables false
set_option linter.unusedSimpArgs false
namespace M
open Go
def fZ{α:Type}(q:α->Int)(k:α):List α->List α
  |[]=>[k]
  |x::l=>if q k<q x then k::x::l else x::fZ q k l
def pM{α:Type}(q:α->Int)(l:List α):List α:=l.foldl (λS k=>fZ q k S) []
def sW{α:Type}(q:α->Int)(l:List α):Prop:=l.Pairwise λa b=>q a<=q b
def Fp{α:Type}(q:α->Int)(k:α):∀l:List α,(fZ q k l).Perm (k::l)
  |[]=>List.Perm.refl _
  |x::l=>by
    unfold fZ;split;· exact List.Perm.refl _
    · exact((Fp q k l).cons x).trans (List.Perm.swap ..)
def abC{α:Type}{q:α->Int}{k x:α}{l:List α}:x∈fZ q k l↔x=k\/x∈l:=by rw[(Fp q k l).mem_iff];simp
def P4{α:Type}(q:α->Int)(k:α)(l:List α):(fZ q k l).length=l.length+1:=by rw[(Fp q k l).length_eq];rfl
def P5{α:Type}{q:α->Int}{k:α}:∀{l:List α},sW q l->sW q (fZ q k l)
  |[],_=>by simp[fZ,sW]
  |x::l,h=>by
    unfold sW at h⊢;rw[eC] at h;unfold fZ;split
    · rename_i g
      rw[eC]
      refine⟨λy hy=>?_,eC.2 h⟩
      rcases bO.1 hy with rfl|hy
      · omega
      · have:=h.1 y hy;omega
    · rename_i g
      rw[eC]
      refine⟨λy hy=>?_,P5 h.2⟩
      rcases abC.1 hy with rfl|hy
      · omega
      · exact h.1 y hy
def RT{α:Type}(q:α->Int)(l:List α):(pM q l).Perm l:=by
  suffices H:∀(l S:List α),(l.foldl (λS k=>fZ q k S) S).Perm (S++l) by simpa [pM] using H l []
  intro l;induction l with
  |nil=>intro S;simp
  |cons k l ih=>intro S;rw[vG];refine(ih _).trans ?_;refine((Fp q k S).append_right l).trans ?_;simpa using (List.perm_middle (a:=k) (l₁:=S) (l₂:=l)).symm
def P0{α:Type}{q:α->Int}{k:α}:∀{l r:List α},(∀x∈l,q x<=q k)->fZ q k (l++r)=l++fZ q k r
  |[],r,_=>rfl
  |x::l,r,h=>by have h1:=h x (bz ..);rw[gE,fZ,az (by omega),P0 λy hy=>h y (cE _ hy)];rfl
def P3{α:Type}{q:α->Int}{k:α}{l:List α}(h:∀x∈l,q k<q x):fZ q k l=k::l:=by
  cases l with
  |nil=>rfl
  |cons x l=>rw[fZ,aq (h x (bz ..))]
def xE{α:Type}(q:α->Int)(k:α):List α->List α->List α
  |[],done=>k::done
  |x::rev,done=>if q k<q x then xE q k rev (x::done) else (x::rev).reverse++k::done
def P6{α:Type}{q:α->Int}{k:α}:∀(rev done:List α),sW q rev.reverse->(∀x∈done,q k<q x)->xE q k rev done=fZ q k (rev.reverse++done)
  |[],done,_,h=>by simp[xE,P3 h]
  |x::rev,done,ho,h=>by
    have e:(x::rev).reverse=rev.reverse++[x]:=by simp
    have ho':=ho;rw[e] at ho';unfold sW at ho';rw[vu] at ho';unfold xE;split
    · rename_i g
      rw[P6 rev (x::done) ho'.1 (λy hy=>by
        rcases bO.1 hy with rfl|hy;· exact g
        · exact h y hy)]
      simp
    · rename_i g
      rw[P0 (λy hy=>by
        rw[e] at hy;rcases fP.1 hy with hy|hy;· have:=ho'.2.2 y hy x (by simp);omega
        · simp at hy;subst hy;omega),P3 h]
end M
set_option linter.unusedVariables false
set_option linter.unusedSimpArgs false
namespace M
open Go
structure GK (S:Int) (l:List Kp):Prop where
  k:∀x∈l,dJ x.obj=true/\(5<=x.at_/\x.at_<=19)/\1<=x.seq/\x.seq<S
  p:l.Pairwise λx y=>x.at_≠y.at_/\x.seq<y.seq
end M
set_option linter.unusedVariables false
set_option linter.unusedSimpArgs false
namespace M
open Go
def aey{n:Nat}{P:Program}{row:String}{args:Array Value}{w:World}{R:Value->World->Prop}{l:Nat}(h:Rows P row args w R):RowsIn (Fence.wide.inRound l) n P row args w R:=
  λc cs _=>let ⟨v,w',r,s⟩:=h c cs;⟨v,w',r,stepsIn_wide.2 s⟩
def ah5{P:Program}{ops:Array Oper}{Q Q':Exit->Act->World->Prop}{i:Nat}{K K':Act->World->Prop}{a:Act}{w:World}{l n:Nat}
    (hnd:∀o,ops[i]?=some o->∀c,o.op≠.defer c)(hQ:∀c a w,¬Q (.panic c) a w)(hlo:¬LetsOut Q)(hK:∀a w,K a w->K' a w)
    (h:wpOp P ops Q i K a w):wpOpIn (Fence.wide.inRound l) n P ops Q' i K' a w:=by
  unfold wpOp at h;unfold wpOpIn;cases ho:ops[i]? with
  |none=>simp only[ho] at h⊢;exact hK _ _ h
  |some o=>
    simp only[ho] at h⊢;split
    · rename_i hw
      rw[aq hw] at h
      rcases h with h|h
      · refine⟨λ_ _=>trivial,?_⟩
        rw[Oper.semAt_eq _ _ _ (hnd o ho)]
        unfold Oper.wp at h
        generalize (execOp a.eval o).run P w=r at h⊢
        match r,h with
        |.ok (.value u) w',h=>exact hK _ _ h
        |.ok .skip w',h=>exact hK _ _ h
        |.ok (.defer d) w',h=>exact hK _ _ h
        |.ok (.enter f args) w',h=>
          refine⟨λhd=>(by cases hd),CallsIn.inRound l (callsIn_wide.2 (Calls.mono h λe w'' he=>?_))⟩
          match e,he with
          |.returned u,he=>exact hK _ _ he
          |.panicked c,he=>exact(hQ _ _ _ he).elim
          |.outgrown,he=>exact(hlo he).elim
        |.ok (.row row args) w',h=>exact⟨λhd=>(by cases hd),RowsIn.mono (aey h) λv w'' he=>hK _ _ he⟩
        |.halt (.panic u) w',h=>exact(hQ _ _ _ h).elim
      · exact(hlo h.2).elim
    · rename_i hw
      rw[az hw] at h
      exact⟨λ_ _=>trivial,hK _ _ h⟩
def SN{P:Program}{ops:Array Oper}{Q Q':Exit->Act->World->Prop}{l n:Nat}
    (hnd:∀(i:Nat) (o:Oper),ops[i]?=some o->∀c,o.op≠.defer c)(hQ:∀c a w,¬Q (.panic c) a w)(hlo:¬LetsOut Q)(hN:∀a w,Q .normal a w->Q' .normal a w):
    ∀{fuel:Nat} {listed:Array Bool} {a:Act} {w:World},wpAny P .any ops Q fuel listed a w->wpAnyIn (Fence.wide.inRound l) n P .any ops Q' fuel listed a w
  |0,_,_,_,h=>⟨h.1,hN _ _ h.2⟩
  |fuel+1,_,_,_,h=>⟨λhr=>hN _ _ (h.1 hr),λi hi=>ah5 (hnd i) hQ hlo (λ_ _ h=>SN hnd hQ hlo hN h) (h.2 i hi)⟩
def atEnd(K:Act->World->Prop):Exit->Act->World->Prop
  |.normal,a,w=>K a w
  |_,_,_=>False
def aeg{P:Program}{ops:Array Oper}{Q:Exit->Act->World->Prop}{S:World->Prop}{l n id:Nat}{a:Act}{w:World}(hm:P.follows .mixedOrders=true)
    (hnd:(ops.all λo=>match o.op with|.defer _=>false|_=>true)=true)
    {N:Nat}(hN:ops.size=N)(h:wpAnyH P .any ops (atEnd λa w=>Q .normal a w) S N (Array.replicate N false) a w.drew):(Code.region id ops true).wpIn (Fence.wide.inRound l) n P Q a w:=by subst hN;refine wpIn_region_any hm ?_;refine SN (Q:=atEnd λa w=>Q .normal a w) (Q':=Q) (w:=w.drew) (λi o ho c hc=>?_) (λ_ _ _ h=>h) (λ⟨_,_,h⟩=>h) (λ_ _ h=>h) (wpAny_of_held _ _ _ _ h);have:=Array.all_eq_true_iff_forall_mem.1 hnd o (Array.mem_of_getElem? ho);rw[hc] at this;cases this
def aV{P:Program}{ops:Array Oper}{Q:Exit->Act->World->Prop}{S:World->Prop}{md:Region.Mode}{i d:Nat}{oi:Oper}{v:Value}{fuel:Nat}{listed aS:Array Bool}{tm:Array Value}{df:List Deferred}{w:World}(hi:ops[i]?=some oi)
    (hs:Region.noSelect ops=true)(hf:Region.free md ops listed i=true)(hr:(Region.ready md ops listed).contains i=true)
    (hQ:∀c a w,Q (.panic c) (a.put oi.dst v) w->Q (.panic c) a w)(hd:oi.dst=some d)(hl:listed.setIfInBounds i true=aS)(hS:S w)(hy:YieldsIf P ops S oi v {tmps:=tm,defers:=df})
    (h:wpAnyH P md ops Q S fuel aS {tmps:=tm.setIfInBounds d v,defers:=df} w):wpAnyH P md ops Q S (fuel+1) listed {tmps:=tm,defers:=df} w:=by refine wpAnyH_take hi hs hf hr hQ hy hS ?_;rw[hd,hl];exact h
end M
set_option linter.unusedVariables false
set_option linter.unusedSimpArgs false
namespace Go.Proofs
structure cN where
  p:ByteArray
  a1:Option Addr
  l1:Nat
  c1:Nat
  a2:Option Addr
  l2:Nat
  c2:Nat
  s:Int
  a3:Option Addr
  l3:Nat
  c3:Nat
  b:ByteArray
  t:Int
  k:Int
  q:Int
def cN.v(e:cN):Nat->Value
  |0=>.string e.p
  |1=>.slice e.a1 e.l1 e.c1
  |2=>.slice e.a2 e.l2 e.c2
  |3=>.int .i64 e.s
  |4=>.slice e.a3 e.l3 e.c3
  |5=>.string e.b
  |6=>.int .i64 e.t
  |7=>.int .i64 e.k
  |_=>.int .i64 e.q
def cN.ob(e:cN):Array Value:= #[.string e.p,.slice e.a1 e.l1 e.c1,.slice e.a2 e.l2 e.c2,.int .i64 e.s,.slice e.a3 e.l3 e.c3,.string e.b,.int .i64 e.t]
def cN.kp(e:cN):Array Value:= #[.string e.p,.slice e.a1 e.l1 e.c1,.slice e.a2 e.l2 e.c2,.int .i64 e.s,.slice e.a3 e.l3 e.c3,.string e.b,.int .i64 e.t,.int .i64 e.k,.int .i64 e.q]
def cN.z:cN:=⟨⟨#[]⟩,none,0,0,none,0,0,0,none,0,0,⟨#[]⟩,0,0,0⟩
def wA:Array Value:= #[.string ⟨#[]⟩,.slice none 0 0,.slice none 0 0,.int .i64 0,.slice none 0 0,.string ⟨#[]⟩,.int .i64 0]
end Go.Proofs
namespace M
open Go Go.RowKit Go.Proofs
def UA[Bs]{P:Program}{f:FuncId}{xs:List X}{r:X}
    (h:∀w zl zb cs,cs.map C.er=xs->nv w zl zb cs->pX w zl zb->Calls P f (cs.map C.val).toArray w λe w'=>∃c:C,e=.returned c.val/\c.er=r/\Below w.heap.size w w'/\ki w w' c):
    AC P f xs λr' ps=>r'=r/\ps=xs.map λ_=>.dead:=by
  intro w zl zb cs e hA iC;refine(h w zl zb cs e hA iC).mono λe' w' ⟨c,he,hc,hb,c1,c2,c3⟩=>?_;have zQ:Ext (λb k=>∃x∈cs,x.fp b k) w w':=⟨hb.os,hb.tape,hb.output,hb.size,λb hl=>.inl (hb.block b hl)⟩;refine⟨c,cs.map λx=>.dead x.val,zl,⟨he,by rw[cH];rfl,zQ,⟨λx hx'=>?_,λx hx'=>?_,λx hx' b k hf=>?_,λb k hz=>iK (hA.cA b k (hz.imp id λh=>h.elim)) hb.size,?_⟩,λx hx' b k hf=>?_,λ_ _ h=>h,λ_ _ h=>.inl h⟩,hc,?_⟩
  · rcases bO.1 hx' with rfl|hx'
    · exact c1 _
    · obtain⟨y,_,rfl⟩:=aT.1 hx';trivial
  · rcases bO.1 hx' with rfl|hx'
    · exact c2
    · obtain⟨y,_,rfl⟩:=aT.1 hx';trivial
  · rcases bO.1 hx' with rfl|hx'
    · have h1:=c3 b k hf
      exact⟨λhz=>by have:=hA.cA b k (.inl hz);omega,λhz=>hz⟩
    · obtain⟨y,_,rfl⟩:=aT.1 hx';exact hf.elim
  · refine eC.2 ⟨λx hx b k hf hf'=>?_,?_⟩
    · obtain⟨y,_,rfl⟩:=aT.1 hx;exact hf'
    · refine og.2 λi j hi hj _ b k hf=>?_
      obtain⟨y,_,hy⟩:=aT.1 (cU hi)
      rw[<-hy] at hf
      exact hf.elim
  · rcases bO.1 hx' with rfl|hx'
    · exact .inr (c3 b k hf)
    · obtain⟨y,_,rfl⟩:=aT.1 hx';exact hf.elim
  · rw[<-e]
    simp[cH,CE,C.er]
def aeu{w w':World}{Z Z':Md->Nat->Nat->Prop}{B sz len cap:Nat}{A:Option Ad}{e:Nat->Nat->C}(hs:∀i j,i<len->j<sz->∃s,e i j=.str s)
    (h:(C.row .own sz A len cap e).ok w Z)(hB:∀b k,(C.row .own sz A len cap e).fp b k->B<=b)
    (hk:∀b arr t fz,B<=b->w.heap[b]?=some (.cells arr t fz)->w'.heap[b]?=some (.cells arr t fz)):(C.row .own sz A len cap e).ok w' Z':=by
  obtain⟨h1,h2,h3,h4,h5⟩:=h;have hA:∀g o,A=some (g,o,none)->B<=g:=λg o e=>hB g 0 ⟨rfl,.inl ⟨o,e⟩⟩;refine⟨h1,λi j hi hj=>?_,λi j hi hj=>?_,λ_=>?_,h5⟩
  · obtain⟨g,o,e1,e2,e3⟩:=h2 i j hi hj
    refine⟨g,o,e1,?_,λhm=>(hm rfl).elim⟩
    unfold World.cell? at e2⊢
    simp only at e2⊢
    cases hg:w.heap[g]? with
    |none=>rw[hg] at e2;simp at e2
    |some ob=>
      cases ob with
      |cells arr t fz=>rw[hk g arr t fz (hA g o e1) hg];rw[hg] at e2;exact e2
      |_=>rw[hg] at e2;simp at e2
  · obtain⟨a1,a2,a3,a4⟩:=h3 i j hi hj
    obtain⟨s,hs⟩:=hs i j hi hj
    refine⟨a1,a2,a3,?_⟩
    rw[hs] at a4⊢
    exact a4
  · rcases h4 rfl with h4|⟨g,o,arr,t,fz,e1,e2,e3,e4⟩
    · exact .inl h4
    · refine .inr ⟨g,o,arr,t,fz,e1,hk g arr t fz (hA g o e1) e2,e3,λk k1 k2=>?_⟩
      have:=e4 k k1 k2
      unfold World.frozen? at this⊢
      simp only at this⊢
      rw[e2] at this
      rw[hk g arr t fz (hA g o e1) e2]
      exact this
def Dn{c:C}{xs:List X}(h:c.er=.agg xs):∃f,c=.agg xs.length f/\∀j x,xs[j]?=some x->(f j).er=x:=by
  cases c with
  |agg n f=>
    simp only[C.er,X.agg.injEq] at h;have hn:n=xs.length:=by rw[<-h];simp
    subst hn;refine⟨f,rfl,λj x hj=>?_⟩;obtain⟨hl,_⟩:=aQ.1 hj;rw[<-h] at hj;simp[hl] at hj;exact hj
  |_=>simp[C.er] at h
def Xh{c:C}{m:Md}{xs:List X}(h:c.er=.ptr m xs):∃g o f,c=.ptr m g o xs.length f/\∀j x,xs[j]?=some x->(f j).er=x:=by
  cases c with
  |ptr m' g o n f=>
    simp only[C.er,X.ptr.injEq] at h;obtain⟨rfl,h⟩:=h;have hn:n=xs.length:=by rw[<-h];simp
    subst hn;refine⟨g,o,f,rfl,λj x hj=>?_⟩;obtain⟨hl,_⟩:=aQ.1 hj;rw[<-h] at hj;simp[hl] at hj;exact hj
  |_=>simp[C.er] at h
def aev{sz len:Nat}{e:Nat->Nat->C}{rows:List (List X)}(hl:len=rows.length)(h:∀i,i<len->rows[i]?=some ((List.range sz).map λj=>(e i j).er))(hr:∀r∈rows,∀x∈r,∃s,x=.str s):∀i j,i<len->j<sz->∃s,e i j=.str s:=by intro i j hi hj;have h1:=h i hi;obtain⟨s,hs⟩:=hr _ (ri h1) (e i j).er (aT.2 ⟨j,oc.2 hj,rfl⟩);exact⟨s,kr hs⟩
def Rx(l:List ah):∀r∈l.map eS,∀x∈r,∃s,x=.str s:=by intro r hr x hx;obtain⟨s,_,rfl⟩:=aT.1 hr;simp at hx;exact⟨_,hx⟩
def aex(l:List aH):∀r∈l.map aR,∀x∈r,∃s,x=.str s:=by intro r hr x hx;obtain⟨s,_,rfl⟩:=aT.1 hr;simp at hx;rcases hx with rfl|rfl<;>exact⟨_,rfl⟩
def KZ{w w':World}{Z Z':Md->Nat->Nat->Prop}{B sz:Nat}{c:C}{rows:List (List X)}(hr:∀r∈rows,∀x∈r,∃s,x=.str s)(h:c.er=.row .own sz rows)(hok:c.ok w Z)(hB:∀b k,c.fp b k->B<=b)
    (hk:∀b arr t fz,B<=b->w.heap[b]?=some (.cells arr t fz)->w'.heap[b]?=some (.cells arr t fz)):c.ok w' Z':=by obtain⟨A,len,cap,e,rfl,hlen,hrow⟩:=ua h;exact aeu (aev hlen hrow hr) hok hB hk
def acQ{w w':World}{Z Z':Md->Nat->Nat->Prop}{B:Nat}{c:C}{o:Ob}(h:c.er=.agg (cD .own o))(hok:c.ok w Z)(hB:∀b k,c.fp b k->B<=b)
    (hk:∀b arr t fz,B<=b->w.heap[b]?=some (.cells arr t fz)->w'.heap[b]?=some (.cells arr t fz)):c.ok w' Z':=by
  obtain⟨f,rfl,hf⟩:=Dn h;obtain⟨h1,h2⟩:=hok;have cg:∀j,j<7->∀b k,(f j).fp b k->B<=b:=λj hj b k hh=>hB b k ⟨j,hj,hh⟩;refine⟨λj hj=>⟨(h1 j hj).1,?_⟩,h2⟩;have PA:j<7:=hj;have ho:=(h1 j hj).2;have hb:=cg j PA;have e0:=hf 0 _ rfl;have e1:=hf 1 _ rfl;have e2:=hf 2 _ rfl;have e3:=hf 3 _ rfl;have e4:=hf 4 _ rfl;have e5:=hf 5 _ rfl;have e6:=hf 6 _ rfl;match j,PA with
  |0,_=>rw[kr e0] at ho⊢;exact ho
  |1,_=>exact KZ (Rx _) e1 ho hb hk
  |2,_=>exact KZ (Rx _) e2 ho hb hk
  |3,_=>rw[nG e3];trivial
  |4,_=>exact KZ (aex _) e4 ho hb hk
  |5,_=>rw[kr e5] at ho⊢;exact ho
  |6,_=>rw[nG e6];trivial
def sZ{c:C}{m:Md}{z:Nat}{rows:List (List X)}(h:c.er=.row m z rows):∃A len cap,c.val=.slice A len cap:=by obtain⟨A,len,cap,e,rfl,_,_⟩:=ua h;exact⟨_,_,_,rfl⟩
def Xf{f:Nat->C}{k:Kp}{m:Md}(h:∀j x,(av m k)[j]?=some x->(f j).er=x):∃x:cN,(∀j,j<9->(f j).val=x.v j)/\x.p=⟨k.obj.path.toArray⟩:=by
  obtain⟨A1,l1,c1,h1⟩:=sZ (h 1 _ rfl);obtain⟨A2,l2,c2,h2⟩:=sZ (h 2 _ rfl);obtain⟨A4,l4,c4,h4⟩:=sZ (h 4 _ rfl);refine⟨⟨⟨k.obj.path.toArray⟩,A1,l1,c1,A2,l2,c2,k.obj.resp.status,A4,l4,c4,⟨k.obj.resp.body.toArray⟩,k.obj.t,k.at_,k.seq⟩,λj hj=>?_,rfl⟩;match j,hj with
  |0,_=>rw[kr (h 0 _ rfl)];rfl
  |1,_=>exact h1
  |2,_=>exact h2
  |3,_=>rw[nG (h 3 _ rfl)];rfl
  |4,_=>exact h4
  |5,_=>rw[kr (h 5 _ rfl)];rfl
  |6,_=>rw[nG (h 6 _ rfl)];rfl
  |7,_=>rw[nG (h 7 _ rfl)];rfl
  |8,_=>rw[nG (h 8 _ rfl)];rfl
def UM{W:World}{zl zb:Nat->Nat->Prop}{l:List C}(h:∀x∈l,x.ok W (Zf zl zb)/\x.bare/\∀b k,¬x.fp b k)(hz:∀b k,zl b k\/zb b k->b<W.heap.size):nv W zl zb l:=
  ⟨λx hx=>(h x hx).1,λx hx=>(h x hx).2.1,λx hx b k hf=>((h x hx).2.2 b k hf).elim,hz,og.2 λi j hi hj _ b k hf=>((h _ (cU hi)).2.2 b k hf).elim⟩
def Ih[Bs]{w W:World}{zl zb:Nat->Nat->Prop}(h:pX w zl zb)(hb:Below w.heap.size w W):pX W zl zb:=λb hb0=>by
  obtain⟨h1,h2⟩:=h b hb0
  have hlt:b<w.heap.size:=by
    rcases fN b w.heap.size with h'|h';· exact h'
    · rw[jH h'] at h1
      have:=CG hb0
      rw[<-h1] at this
      cases this
  exact⟨(hb.block b hlt).trans h1,h2⟩
def Kw{w W:World}{zl zb:Nat->Nat->Prop}(hz:∀b k,zl b k\/zb b k->b<w.heap.size)(hb:Below w.heap.size w W){c:C}(h:c.ok w (Zf zl zb)):c.ok W (Zf zl zb):=
  C.eX (S:=λ_ _=>False) (⟨hb.os,hb.tape,hb.output,hb.size,λb hl=>.inl (hb.block b hl)⟩:Ext (λ_ _=>False) w W) (λ_ _ _ _ hs=>hs) c (λ_ _ _ hs=>hs) h
def Hu[Bs]{P:Program}{f:FuncId}{xs:List X}{r0:X}(hac:AC P f xs λr _=>r=r0){W:World}{zl zb:Nat->Nat->Prop}{cs:List C}(he:cs.map C.er=xs)(hl:∀x∈cs,x.ok W (Zf zl zb)/\x.bare/\∀b k,¬x.fp b k)(hz:∀b k,zl b k\/zb b k->b<W.heap.size)(hg:pX W zl zb):
    Calls P f (cs.map C.val).toArray W λe w'=>∃r:C,e=.returned r.val/\r.er=r0/\Below W.heap.size W w'/\(∃Z,r.ok w' Z)/\r.bare/\∀b k,r.fp b k->W.heap.size<=b:=
  (hac W zl zb cs he (UM hl hz) hg).mono λe w' ⟨r,ps,aE,hD,hr⟩=>
    ⟨r,hD.ends,hr,(hD.ext.mono (S':=λ_ _=>False) λb k ⟨x,hx,hf⟩ _=>(hl x hx).2.2 b k hf).below,⟨_,hD.all.ok _ (bz ..)⟩,hD.all.bare _ (bz ..),λb k hf=>by
      rcases hD.dom r (bz ..) b k hf with ⟨y,hy,hf⟩|h;· exact((hl y hy).2.2 b k hf).elim
      · exact h⟩
def acP{c:C}{m:Md}{o:Ob}(h:c.er=.agg (cD m o)):∃O:cN,c.val=.agg O.ob:=by obtain⟨f,rfl,hf⟩:=Dn h;obtain⟨A1,l1,c1,h1⟩:=sZ (hf 1 _ rfl);obtain⟨A2,l2,c2,h2⟩:=sZ (hf 2 _ rfl);obtain⟨A4,l4,c4,h4⟩:=sZ (hf 4 _ rfl);refine⟨⟨⟨o.path.toArray⟩,A1,l1,c1,A2,l2,c2,o.resp.status,A4,l4,c4,⟨o.resp.body.toArray⟩,o.t,0,0⟩,?_⟩;have e0:=kr (hf 0 _ rfl);have e3:=nG (hf 3 _ rfl);have e5:=kr (hf 5 _ rfl);have e6:=nG (hf 6 _ rfl);simp[C.val,cN.ob,l9,h1,h2,h4,e0,e3,e5,e6]
def XB{α:Type}{p:α->Bool}{l:List α}{i:Nat}{hi:i<l.length}(h:p l[i]=true)(h2:∀j (hj:j<l.length),i<j->p l[j]=false):l.reverse.find? p=some l[i]:=by
  have e:l=l.take i++l[i]::l.drop (i+1):=by rw[<-nq hi,CA]
  have hd:∀x∈(l.drop (i+1)).reverse,¬p x=true:=by intro x hx;obtain⟨j,hj,rfl⟩:=pT (LK.1 hx);rw[Me];rw[vI] at hj;simp[h2 (i+1+j) (by omega) (by omega)]
  conv=>lhs;rw[e]
  rw[Tg,LN,rA,List.find?_append,List.find?_eq_none.2 hd];simp[h]
def zO:Ob:=⟨[],[],[],⟨0,[],[]⟩,0⟩
def wE(pS:List ah->List ah->List aH->Bool)(pH:List Bn->Ob->Bool)(s:Sh)(q:Rq):Option Ob:=
  (s.aG.reverse.find? λk=>decide (k.obj.path=q.path) && pS k.obj.names k.obj.values q.fields && !pH s.aW k.obj).map λk=>k.obj
def wD(pS:List ah->List ah->List aH->Bool)(pH:List Bn->Ob->Bool)(s:Sh)(q:Rq):X:=.aj [.agg (cD .own ((wE pS pH s q).getD zO)),.bool (wE pS pH s q).isSome]
open Classical in
noncomputable def zo(pS:List ah->List ah->List aH->Bool)(pH:List Bn->Ob->Bool)(xs:List X):Option X:=
  if h:∃r,∃s q,xs=[.ptr .af (bH .af s),.agg (dy .af q)]/\cR s<=1073741824/\bg q<=1073741824/\r=wD pS pH s q then some h.choose else none
def zF(j:Nat):C:=if j=0\/j=5 then .str ⟨#[]⟩ else if j=3\/j=6 then .int .i64 0 else .row .own (if j=4 then 2 else 1) none 0 0 λ_ _=>.dead undef
def zC:C:=.agg 7 zF
def aiu:zC.er=.agg (cD .own zO):=by simp[zC,zF,C.er,l9,zO]
def aiw:zC.val=.agg wA:=by simp[zC,zF,C.val,l9,wA]
def Ta(j b k:Nat):¬(zF j).fp b k:=by
  unfold zF;split;· exact λh=>h
  · split
    · exact λh=>h
    · rintro ⟨_,⟨o,h⟩|⟨i,_,hi,_⟩⟩
      · cases h
      · omega
def aiv{w w':World}:ki w w' zC:=by
  refine⟨λZ=>⟨λj hj=>?_,λj hj b k hf=>(Ta j b k hf).elim⟩,λj hj=>?_,λb k ⟨j,hj,hf⟩=>(Ta j b k hf).elim⟩
  · unfold zF
    split
    · exact⟨trivial,by show (0:Nat)<=_;omega⟩
    · split
      · exact⟨trivial,trivial⟩
      · exact⟨trivial,de _,λi j hi=>by omega,λi j hi=>by omega,λ_=>.inl ⟨rfl,rfl⟩,λi j hi=>by omega⟩
  · unfold zF
    split
    · trivial
    · split<;>trivial
def OT{w w':World}{c:C}{b:Bool}(h:ki w w' c)(hn:c.fJ):ki w w' (lW [c,.bool b]):=by
  refine⟨λZ=>⟨λj hj=>?_,λj hj x k hf j' hj' hne hf'=>?_⟩,λj hj=>?_,λx k ⟨j,hj,hf⟩=>?_⟩
  · match j,hj with
    |0,_=>exact⟨hn,h.1 Z⟩
    |1,_=>exact⟨trivial,trivial⟩
  · match j,hj,j',hj' with
    |0,_,1,_=>exact hf'
    |1,_,_,_=>exact hf
    |0,_,0,_=>exact hne rfl
  · match j,hj with
    |0,_=>exact h.2.1
    |1,_=>trivial
  · match j,hj with
    |0,_=>exact h.2.2 x k hf
    |1,_=>exact hf.elim
def acC[Bs]{P:Program}{f0:FuncId}{g:List X->Option X}
    (h:∀xs r,g xs=some r->∀w zl zb cs,cs.map C.er=xs->nv w zl zb cs->pX w zl zb->Calls P f0 (cs.map C.val).toArray w λe w'=>∃c:C,e=.returned c.val/\c.er=r/\Below w.heap.size w w'/\ki w w' c):(di f0 g).Sound P:=λf xs o e=>by
  unfold di at e;split at e
  · rename_i hf
    subst hf
    split at e
    · rename_i r hr
      cases e
      exact UA (h xs r hr)
    · cases e
  · cases e
def ae0{c:C}(h:c.cK):c.bare:=by cases c<;>first|trivial|exact h.elim
def XD{c:C}(h:c.cK)(hf:c.fits .af)(b k:Nat):¬c.fp b k:=by
  cases c with
  |row m sz A len cap e=>rintro ⟨rfl,_⟩;rcases hf with h|h|⟨_,h⟩<;>cases h
  |ptr=>exact h.elim
  |agg=>exact h.elim
  |aj=>exact h.elim
  |_=>exact λh=>h
def MP{c:C}{z:Nat}{rows:List (List X)}(h:c.er=.row .af z rows)(b k:Nat):¬c.fp b k:=by obtain⟨A,len,cap,e,rfl,_,_⟩:=ua h;rintro ⟨h,_⟩;cases h
def Rv{c:C}{m:Md}{z:Nat}{rows:List (List X)}(h:c.er=.row m z rows):c.bare:=by obtain⟨A,len,cap,e,rfl,_,_⟩:=ua h;trivial
def XC[Bs]{P:Program}{f0 fs fh fc:FuncId}{pS:List ah->List ah->List aH->Bool}{pH:List Bn->Ob->Bool}
    (hS:∀(ns vs:List ah) (fl:List aH),ns.length<=1073741824->vs.length<=1073741824->fl.length<=1073741824->AC P fs [.row .af 1 (ns.map eS),.row .af 1 (vs.map eS),.row .af 2 (fl.map aR)] λr _=>r=.bool (pS ns vs fl))
    (hH:∀(l:List Bn) (o:Ob),wL bK l<=1073741824->aZ o<=1073741824->AC P fh [.row .af 4 (l.map dH),.agg (cD .af o)] λr _=>r=.bool (pH l o))
    (hC:∀(o:Ob),aZ o<=1073741824->AC P fc [.agg (cD .af o)] λr _=>r=.agg (cD .own o))
    (hw:∀(g o:Nat) (A Ab Aq:Option Addr) (len cap lb cb lq cq:Nat) (qm:Int) (qs qb:ByteArray) (E:Nat->cN) (pS pH:Nat->Bool) (R:Nat->cN->World->World->Prop) (w:World),
      len<=1073741824->g<w.heap.size->w.cell? ⟨g,o+2,none⟩=some (.slice A len cap)->w.cell? ⟨g,o+3,none⟩=some (.slice Ab lb cb)->
      (∀i j,i<len->j<9->∃g o,A=some ⟨g,o,none⟩/\g<w.heap.size/\w.cell? ⟨g,o+i*9+j,none⟩=some ((E i).v j))->
      (∀i,i<len->∀W,Below w.heap.size w W->Calls P fs #[.slice (E i).a1 (E i).l1 (E i).c1,.slice (E i).a2 (E i).l2 (E i).c2,.slice Aq lq cq] W λe W'=>e=.returned (.bool (pS i))/\Below W.heap.size W W')->
      (∀i,i<len->∀W,Below w.heap.size w W->Calls P fh #[.slice Ab lb cb,.agg (E i).ob] W λe W'=>e=.returned (.bool (pH i))/\Below W.heap.size W W')->
      (∀i,i<len->∀W,Below w.heap.size w W->Calls P fc #[.agg (E i).ob] W λe W'=>∃O:cN,e=.returned (.agg O.ob)/\Below W.heap.size W W'/\R i O W W')->
      Calls P f0 #[.pointer (some ⟨g,o,none⟩),.agg #[.int .i64 qm,.string qs,.slice Aq lq cq,.string qb]] w λe W'=>Below w.heap.size w W'/\
        ((e=.returned (.tuple #[.agg wA,.bool false])/\∀i,i<len->¬((E i).p=qs/\pS i=true/\pH i=false))\/
         (∃i O W1 W2,i<len/\e=.returned (.tuple #[.agg (cN.ob O),.bool true])/\((E i).p=qs/\pS i=true/\pH i=false)/\(∀i',i<i'->i'<len->¬((E i').p=qs/\pS i'=true/\pH i'=false))/\
            Below w.heap.size w W1/\R i O W1 W2/\∀b arr t fz,W1.heap.size<=b->W2.heap[b]?=some (.cells arr t fz)->W'.heap[b]?=some (.cells arr t fz)))):
    (di f0 (zo pS pH)).Sound P:=
  acC λxs r hg w zl zb cs hx hA iC=>by
    unfold zo at hg;split at hg
    · rename_i h
      obtain⟨s,q,hxs,fk,fm,hr⟩:=h.choose_spec
      cases hg
      rw[hr]
      rw[hxs] at hx
      obtain⟨c1,r1,rfl,h1,h2⟩:=map_cons hx
      obtain⟨c2,r2,rfl,h3,h4⟩:=map_cons h2
      obtain rfl:=map_nil h4
      obtain⟨g,o,f,rfl,hf⟩:=Xh h1
      obtain⟨fq,rfl,nJ⟩:=Dn h3
      have ok1:=hA.ok _ (bz ..)
      have ok2:=hA.ok _ (cE _ (bz ..))
      have Ec:=hA.cA
      obtain⟨k1,k2,k3,k4⟩:=ok1
      obtain⟨q1,q2⟩:=ok2
      obtain⟨A,len,cap,e,ig,hlen,hrow⟩:=ua (hf 2 _ rfl)
      obtain⟨Ab,lb,cb,PO⟩:=sZ (hf 3 _ rfl)
      obtain⟨Aq,lq,cq,PS⟩:=sZ (nJ 2 _ rfl)
      have hq0:=nG (nJ 0 _ rfl)
      have hq1:=kr (nJ 1 _ rfl)
      have hq3:=kr (nJ 3 _ rfl)
      have QN:=(k3 2 (by show 2<6;omega)).2.2
      rw[ig] at QN
      obtain⟨m1,m2,m3,m4,m5⟩:=QN
      have hlo:len=s.aG.length:=by rw[hlen];simp
      have jz:cR s=dA s.bp+wL dm s.aG+wL bK s.aW:=rfl
      have D9:bg q=q.path.length+wL aN q.fields+q.body.length:=rfl
      have II:=bC (w:=dm) s.aG
      have jy:=bC (w:=aN) q.fields
      have hent:∀i (hi:i<len),∀j x,(av .af (s.aG[i]'(by omega)))[j]?=some x->(e i j).er=x:=by intro i hi j x hj;have h5:=hrow i hi;rw[cS,cm (by omega)] at h5;simp only[cC,dr] at h5;rw[h5] at hj;obtain⟨hl,_⟩:=aQ.1 hj;simp only[cW,tq] at hl;simp only[cS,pR hl,cC,dr] at hj;exact hj
      have hE:∀i (hi:i<len),∃x:cN,(∀j,j<9->(e i j).val=x.v j)/\x.p=⟨(s.aG[i]'(by omega)).obj.path.toArray⟩:=λi hi=>Xf (hent i hi)
      obtain⟨E,zG⟩:∃E:Nat->cN,∀i (hi:i<len),(∀j,j<9->(e i j).val=(E i).v j)/\(E i).p=⟨(s.aG[i]'(by omega)).obj.path.toArray⟩:=
        ⟨λi=>if h:i<len then (hE i h).choose else cN.z,λi hi=>by simp only[oq hi];exact(hE i hi).choose_spec⟩
      have wQ:∀W,Below w.heap.size w W->∀i,i<len->∀j,j<9->(e i j).ok W (Zf zl zb)/\(e i j).bare/\∀b k,¬(e i j).fp b k:=λW hb i hi j hj=>
        ⟨Kw Ec hb (m3 i j hi hj).2.2.2,ae0 (m3 i j hi hj).2.1,XD (m3 i j hi hj).2.1 (m3 i j hi hj).2.2.1⟩
      have I8:∀W,Below w.heap.size w W->∀b k,zl b k\/zb b k->b<W.heap.size:=λW hb b k h=>iK (Ec b k h) hb.size
      have hqf:∀W,Below w.heap.size w W->(fq 2).ok W (Zf zl zb)/\(fq 2).bare/\∀b k,¬(fq 2).fp b k:=λW hb=>⟨Kw Ec hb (q1 2 (by show 2<4;omega)).2,Rv (nJ 2 _ rfl),MP (nJ 2 _ rfl)⟩
      have hbf:∀W,Below w.heap.size w W->(f 3).ok W (Zf zl zb)/\(f 3).bare/\∀b k,¬(f 3).fp b k:=λW hb=>⟨Kw Ec hb (k3 3 (by show 3<6;omega)).2.2,Rv (hf 3 _ rfl),MP (hf 3 _ rfl)⟩
      have DY:∀i (hi:i<len),(C.agg 7 (e i)).er=.agg (cD .af (s.aG[i]'(by omega)).obj)/\(C.agg 7 (e i)).val=.agg (E i).ob:=by
        intro i hi;obtain⟨v1,v2⟩:=zG i hi;have hn:=hent i hi;refine⟨?_,?_⟩
        · have e0:=hn 0 _ rfl
          have e1:=hn 1 _ rfl
          have e2:=hn 2 _ rfl
          have e3:=hn 3 _ rfl
          have e4:=hn 4 _ rfl
          have e5:=hn 5 _ rfl
          have e6:=hn 6 _ rfl
          simp only[C.er,l9,List.range_zero,j9,gE,bq,jm,e0,e1,e2,e3,e4,e5,e6]
          rfl
        · have u0:=v1 0 (by decide)
          have u1:=v1 1 (by decide)
          have u2:=v1 2 (by decide)
          have u3:=v1 3 (by decide)
          have u4:=v1 4 (by decide)
          have u5:=v1 5 (by decide)
          have u6:=v1 6 (by decide)
          simp only[C.val,l9,List.range_zero,j9,gE,bq,jm,u0,u1,u2,u3,u4,u5,u6,cN.v,cN.ob]
      have hal:∀W,Below w.heap.size w W->∀i,i<len->(C.agg 7 (e i)).ok W (Zf zl zb)/\(C.agg 7 (e i)).bare/\∀b k,¬(C.agg 7 (e i)).fp b k:=λW hb i hi=>
        ⟨⟨λj hj=>⟨(m3 i j hi (by omega)).1,(wQ W hb i hi j (by omega)).1⟩,λj hj b k cg=>((wQ W hb i hi j (by omega)).2.2 b k cg).elim⟩,λj hj=>(wQ W hb i hi j (by omega)).2.1,λb k ⟨j,hj,cg⟩=>(wQ W hb i hi j (by omega)).2.2 b k cg⟩
      have I5:∀i (hi:i<len),aZ (s.aG[i]'(by omega)).obj<=1073741824:=λi hi=>by have:=yz (cU (show i<s.aG.length by omega));omega
      have key:=hw g o (A.map λq=>⟨q.1,q.2.1,q.2.2⟩) Ab Aq len cap lb cb lq cq q.method ⟨q.path.toArray⟩ ⟨q.body.toArray⟩ E
        (λi=>(s.aG[i]?).elim false λk=>pS k.obj.names k.obj.values q.fields) (λi=>(s.aG[i]?).elim false λk=>pH s.aW k.obj)
        (λi O W W'=>∃k,s.aG[i]?=some k/\∃c:C,c.er=.agg (cD .own k.obj)/\c.val=.agg O.ob/\(∃Z,c.ok W' Z)/\c.bare/\∀b k,c.fp b k->W.heap.size<=b)
        w (by omega) k2 ?k1 ?k2 ?k3 ?k4 ?k5 ?k6
      · have ha:([C.ptr .af g o (bH .af s).length f,C.agg (dy .af q).length fq].map C.val).toArray= #[.pointer (some ⟨g,o,none⟩),.agg #[.int .i64 q.method,.string ⟨q.path.toArray⟩,.slice Aq lq cq,.string ⟨q.body.toArray⟩]]:=by
          simp[C.val,l9,hq0,hq1,PS,hq3]
        rw[ha]
        have IZ:∀i (hi:i<s.aG.length),((E i).p=⟨q.path.toArray⟩/\(s.aG[i]?.elim false λk=>pS k.obj.names k.obj.values q.fields)=true/\(s.aG[i]?.elim false λk=>pH s.aW k.obj)=false)↔(decide (s.aG[i].obj.path=q.path) && pS s.aG[i].obj.names s.aG[i].obj.values q.fields && !pH s.aW s.aG[i].obj)=true:=by
          intro i hi;rw[(zG i (by omega)).2,cm hi];simp only[Option.elim_some,ax,bx,ru,L1];constructor
          · rintro ⟨a1,a2,a3⟩
            exact⟨⟨by simpa using dw Array.toList a1,a2⟩,a3⟩
          · rintro ⟨⟨a1,a2⟩,a3⟩
            exact⟨by rw[a1],a2,a3⟩
        refine Calls.mono key λe' w' ⟨hb,hres⟩=>?_
        rcases hres with ⟨rfl,hno⟩|⟨i,O,W1,W2,hi,rfl,hp,IK,hbW,⟨k,hk,c,h5,h6,⟨Z,h7⟩,h8,h9⟩,hst⟩
        · have hnone:wE pS pH s q=none:=by
            unfold wE;rw[List.find?_eq_none.2];· rfl
            · intro k hk
              obtain⟨i,hi,rfl⟩:=pT (LK.1 hk)
              exact λh=>hno i (by omega) ((IZ i hi).2 h)
          refine⟨lW [zC,.bool false],?_,?_,hb,OT aiv trivial⟩
          · simp[lW,C.val,l9,aiw]
          · unfold wD
            rw[hnone]
            simp[lW,C.er,l9,aiu]
        · have hi2:i<s.aG.length:=by omega
          rw[cm hi2] at hk
          cases hk
          have hsome:wE pS pH s q=some s.aG[i].obj:=by
            unfold wE;rw[XB (hi:=hi2) ((IZ i hi2).1 hp) (λj hj hij=>by have:=IK j hij (by omega);rw[IZ j hj] at this;simpa using this)]
            rfl
          have hfc:ki w w' c:=by refine⟨λZ'=>acQ h5 h7 h9 hst,h8,λb k hf=>mc hbW.size (h9 b k hf)⟩
          refine⟨lW [c,.bool true],?_,?_,hb,OT hfc ?_⟩
          · simp[lW,C.val,l9,h6]
          · unfold wD
            rw[hsome]
            simp[lW,C.er,l9,h5]
          · obtain⟨fo,rfl,_⟩:=Dn h5
            trivial
      case k1=>
        have:=(k1 2 (by show 2<6;omega)).1
        rw[ig] at this
        exact this
      case k2=>
        have:=(k1 3 (by show 3<6;omega)).1
        rw[PO] at this
        exact this
      case k3=>
        intro i j hi hj
        obtain⟨g',o',e1,e2,_⟩:=m2 i j hi hj
        rw[(zG i hi).1 j hj] at e2
        refine⟨g',o',by rw[e1];rfl,?_,e2⟩
        rcases fN g' w.heap.size with h|h
        · exact h
        · simp[World.cell?,jH h] at e2
      case k4=>
        intro i hi W hb
        have ho:=I5 i hi
        have dW:∀o:Ob,aZ o=o.path.length+wL wS o.names+wL wS o.values+aL o.resp:=λ_=>rfl
        have:=dW (s.aG[i]'(by omega)).obj
        have n1:=bC (w:=wS) (s.aG[i]'(by omega)).obj.names
        have n2:=bC (w:=wS) (s.aG[i]'(by omega)).obj.values
        have hc:=Hu (hS (s.aG[i]'(by omega)).obj.names (s.aG[i]'(by omega)).obj.values q.fields (by omega) (by omega) (by omega)) (W:=W) (zl:=zl) (zb:=zb) (cs:=[e i 1,e i 2,fq 2]) (by
          simp only[bq,jm];rw[hent i hi 1 _ rfl,hent i hi 2 _ rfl,nJ 2 _ rfl]) (λx hx=>by
          simp only[bO,mY,nj] at hx;rcases hx with rfl|rfl|rfl;· exact wQ W hb i hi 1 (by decide)
          · exact wQ W hb i hi 2 (by decide)
          · exact hqf W hb) (I8 W hb) (Ih iC hb)
        simp only[bq,jm,(zG i hi).1 1 (by decide),(zG i hi).1 2 (by decide),PS] at hc
        refine Calls.mono hc λe' w' ⟨r,h5,h6,h7,_⟩=>⟨?_,h7⟩
        rw[h5,Od h6,cm (show i<s.aG.length by omega)]
        rfl
      case k5=>
        intro i hi W hb
        have hc:=Hu (hH s.aW (s.aG[i]'(by omega)).obj (by omega) (I5 i hi)) (W:=W) (zl:=zl) (zb:=zb) (cs:=[f 3,.agg 7 (e i)]) (by
          simp only[bq,jm];rw[(DY i hi).1,hf 3 _ rfl]) (λx hx=>by
          simp only[bO,mY,nj] at hx;rcases hx with rfl|rfl;· exact hbf W hb
          · exact hal W hb i hi) (I8 W hb) (Ih iC hb)
        simp only[bq,jm,(DY i hi).2,PO] at hc
        refine Calls.mono hc λe' w' ⟨r,h5,h6,h7,_⟩=>⟨?_,h7⟩
        rw[h5,Od h6,cm (show i<s.aG.length by omega)]
        rfl
      case k6=>
        intro i hi W hb
        have hc:=Hu (hC (s.aG[i]'(by omega)).obj (I5 i hi)) (W:=W) (zl:=zl) (zb:=zb) (cs:=[.agg 7 (e i)]) (by
          simp only[bq,jm];rw[(DY i hi).1]) (λx hx=>by
          simp only[bO,mY,nj] at hx;rcases hx with rfl;exact hal W hb i hi) (I8 W hb) (Ih iC hb)
        simp only[bq,jm,(DY i hi).2] at hc
        refine Calls.mono hc λe' w' ⟨r,h5,h6,h7,h8,h9,h10⟩=>?_
        obtain⟨O,hO⟩:=acP h6
        exact⟨O,by rw[h5,hO],h7,_,cm (show i<s.aG.length by omega),r,h6,hO,h8,h9,h10⟩
    · cases hg
end M
set_option linter.unusedVariables false
set_option linter.unusedSimpArgs false
namespace M
open Go
def qL{α β:Type}{f:α->β}(hf:∀a b,f a=f b->a=b):∀{l l':List α},l.map f=l'.map f->l=l'
  |[],[],_=>rfl
  |[],_::_,h=>by cases h
  |_::_,[],h=>by cases h
  |a::l,b::l',h=>by simp only[bq,nk] at h;rw[hf _ _ h.1,qL hf h.2]
def HN(a b:ah)(h:eS a=eS b):a=b:=by simpa using h
def NY(a b:aH)(h:aR a=aR b):a=b:=by cases a;cases b;simpa using h
def Xe(a b:Wr)(h:eW a=eW b):a=b:=by cases a;cases b;simpa using h
def W9(a b:Bn)(h:dH a=dH b):a=b:=by cases a;cases b;simpa using h
def Xb{m:Md}(a b:Rq)(h:dy m a=dy m b):a=b:=by obtain⟨a1,a2,a3,a4⟩:=a;obtain⟨b1,b2,b3,b4⟩:=b;simp only[dy,nk,X.int.injEq,X.str.injEq,X.row.injEq,L1,tn,vE] at h;obtain⟨h1,h2,h3,h4⟩:=h;rw[h1,qL NY h3,show a2=b2 by simpa using h2,show a4=b4 by simpa using h4]
def Xa{m:Md}(a b:Kp)(h:av m a=av m b):a=b:=by obtain⟨⟨a1,a2,a3,⟨a4,a5,a6⟩,a7⟩,a8,a9⟩:=a;obtain⟨⟨b1,b2,b3,⟨b4,b5,b6⟩,b7⟩,b8,b9⟩:=b;simp only[av,nk,X.int.injEq,X.str.injEq,X.row.injEq,L1,tn,vE] at h;obtain⟨h1,h2,h3,h4,h5,h6,h7,h8,h9⟩:=h;rw[show a1=b1 by simpa using h1,qL HN h2,qL HN h3,h4,qL NY h5,show a6=b6 by simpa using h6,h7,h8,h9]
def Xc{m:Md}(a b:Sh)(h:bH m a=bH m b):a=b:=by obtain⟨⟨a1,a2⟩,a3,a4,a5,a6⟩:=a;obtain⟨⟨b1,b2⟩,b3,b4,b5,b6⟩:=b;simp only[bH,nk,X.int.injEq,X.row.injEq,tn,vE] at h;obtain⟨h1,h2,h3,h4,h5,h6⟩:=h;rw[qL HN h1,qL Xe h2,qL Xa h3,qL W9 h4,h5,h6]
def Xy(pS:List ah->List ah->List aH->Bool)(pH:List Bn->Ob->Bool)(s:Sh)(q:Rq)(hs:cR s<=1073741824)(hq:bg q<=1073741824):zo pS pH [.ptr .af (bH .af s),.agg (dy .af q)]=some (wD pS pH s q):=by unfold zo;have h:∃r,∃s' q',([.ptr .af (bH .af s),.agg (dy .af q)]:List X)=[.ptr .af (bH .af s'),.agg (dy .af q')]/\cR s'<=1073741824/\bg q'<=1073741824/\r=wD pS pH s' q':=⟨_,s,q,rfl,hs,hq,rfl⟩;rw[oq h];obtain⟨s',q',he,_,_,hr⟩:=h.choose_spec;rw[hr];simp only[nk,X.ptr.injEq,X.agg.injEq,tn,vE] at he;rw[Xc _ _ he.1,Xb _ _ he.2]
end M
set_option linter.unusedVariables false
set_option linter.unusedSimpArgs false
namespace M
open Go Go.RowKit
def Fo(A:Option Ad)(b _k:Nat):Prop:=∃o,A=some (b,o,none)
def aes{w w2:World}{z len len' cap:Nat}{A:Option Ad}{e e':Nat->Nat->C}{Z Z':Md->Nat->Nat->Prop}(h:(C.row .own z A len cap e).ok w Z)(hE:Ext (Fo A) w w2)(hl:len'<=cap)
    (hc:∀i j,i<len'->j<z->∃g o,A=some (g,o,none)/\w2.cell? ⟨g,o+i*z+j,none⟩=some (e' i j).val)
    (hk:∀i j,i<len'->j<z->(e' i j).cell/\(e' i j).cK/\(e' i j).ok w2 Z')
    (hd:∀i j,i<len'->j<z->∀b k,(e' i j).fp b k->(∀o,A≠some (b,o,none))/\∀i' j',i'<len'->j'<z->(i,j)≠(i',j')->¬(e' i' j').fp b k):
    (C.row .own z A len' cap e').ok w2 Z':=by
  obtain⟨r1,r2,r3,r4,r5⟩:=h;refine⟨hl,λi j hi hj=>?_,λi j hi hj=>?_,λ_=>?_,λi j hi hj b k hf=>?_⟩
  · obtain⟨g,o,a1,a2⟩:=hc i j hi hj
    exact⟨g,o,a1,a2,λhm=>absurd rfl hm⟩
  · obtain⟨a1,a2,a3⟩:=hk i j hi hj
    refine⟨a1,a2,?_,a3⟩
    cases hq:e' i j<;>first|trivial|exact .inl rfl
  · rcases r4 rfl with h|⟨g,o,arr,t,fz,hA,hh,hsz,hfr⟩
    · exact .inl h
    · have hg:g<w.heap.size:=(gb.1 hh).1
      rcases hE.block g hg with e1|⟨a1,a2,t',k7,e1,e2,e3,_⟩
      · exact .inr ⟨g,o,arr,t,fz,hA,e1.trans hh,hsz,λk hk hk'=>(hE.frozen hg).trans (hfr k hk hk')⟩
      · rw[hh] at e1
        cases e1
        exact .inr ⟨g,o,a2,t,fz,hA,e2,by omega,λk hk hk'=>(hE.frozen hg).trans (hfr k hk hk')⟩
  · obtain⟨a1,a2⟩:=hd i j hi hj b k hf
    exact⟨λ_=>a1,a2⟩
def Dk(f0 z:Nat):cr:=λf xs=>if f=f0 then (match xs with
  |[.row .own z' rows,.int .i64 i,.int .i64 j]=>if z'=z/\0<=i/\i.toNat<rows.length/\j=i+1/\X.clean.bn rows=true then some (.row .own z (rows.eraseIdx i.toNat),[.dead,.dead,.dead]) else none
  |_=>none) else none
def HK{z t:Nat}(h0:0<z):t / z*z+t%z=t:=by rw[kS];exact yF t z
def WZ[B:Bs]{P:Program}{f0 z:Nat}{zv:List Value}(h0:0<z)(hzl:zv.length=z)
    (hc:∀(blk off cap len i:Nat) (news:List Value) (w:World),i<len->len<=cap->news.length=(len - (i+1))*z->
      (∀t u,news[t]?=some u->w.cell? ⟨blk,off+(i+1)*z+t,none⟩=some u)->(∀u∈news,u.oneCell'=true)->
      (∀t,t<len*z->(w.cell? ⟨blk,off+t,none⟩).isSome=true/\w.frozen? ⟨blk,off+t,none⟩=false)->
      Calls P f0 #[.slice (some ⟨blk,off,none⟩) len cap,.int .i64 i,.int .i64 ((i:Int)+1)] w λe w'=>e=.returned (.slice (some ⟨blk,off,none⟩) (len - 1) cap)/\∃q,w'=((w.drewN q).setCells blk (off+i*z) news).setCells blk (off+(len - 1)*z) zv):(Dk f0 z).Sound P:=λf xs o e=>by
  unfold Dk at e;split at e
  · rename_i hf
    subst hf
    split at e
    · rename_i z' rows i j
      split at e
      · rename_i hh
        obtain⟨rfl,hi0,nM,rfl,hcl⟩:=hh
        cases e
        intro w zl zb cs hx hA iC
        obtain⟨c0,r1,rfl,h1,h2⟩:=map_cons hx
        obtain⟨c1,r2,rfl,h3,h4⟩:=map_cons h2
        obtain⟨c2,r3,rfl,h5,h6⟩:=map_cons h4
        obtain rfl:=map_nil h6
        obtain rfl:=nG h3
        obtain rfl:=nG h5
        obtain⟨A,len,cap,e,rfl,hlen,hrow⟩:=ua h1
        obtain⟨n,rfl⟩:∃n:Nat,i=n:=⟨i.toNat,by omega⟩
        simp only[pP] at nM⊢
        have hn:n<len:=by omega
        have hok:=hA.ok _ (bz ..)
        have aa4:=hok
        obtain⟨r1,r2,r3,r4,r5⟩:=aa4
        obtain⟨g,o,rfl,aky,_⟩:=r2 n 0 hn h0
        have hcell:∀i j,i<len->j<z'->w.cell? ⟨g,o+i*z'+j,none⟩=some (e i j).val:=λi j hi hj=>by obtain⟨g',o',q1,q2,_⟩:=r2 i j hi hj;cases q1;exact q2
        have ID:∀k,k<cap*z'->w.frozen? ⟨g,o+k,none⟩=false:=λk hk=>by
          rcases r4 rfl with ⟨h,_⟩|⟨g',o',arr,t,fz,q1,q2,q3,q4⟩;· cases h
          · cases q1
            exact q4 _ (by omega) (by omega)
        let nw:Nat->Value:=λt=>(e (n+1+t / z') (t%z')).val
        let news:List Value:=(List.range ((len - (n+1))*z')).map nw
        have hnl:news.length=(len - (n+1))*z':=by simp[news]
        have IU:∀t,t<(len - (n+1))*z'->news[t]?=some (nw t):=λt ht=>by simp[news,ht]
        have hidx:∀t,t<(len - (n+1))*z'->n+1+t / z'<len/\t%z'<z':=λt ht=>by have:=Gw (kS _ z'▸ht);exact⟨by omega,om _ h0⟩
        have hmul:∀a b,(a+b)*z'=a*z'+b*z':=λa b=>fe a b z'
        refine(hc g o cap len n news w hn r1 hnl (λt u hu=>?_) (λu hu=>?_) (λt ht=>?_)).mono ?_
        · have ht:t<(len - (n+1))*z':=by have:=(aQ.1 hu).1;omega
          rw[IU t ht] at hu
          cases hu
          obtain⟨q1,q2⟩:=hidx t ht
          have:=hcell _ _ q1 q2
          rw[hmul (n+1) (t / z')] at this
          have hd:=HK (t:=t) h0
          rw[<-this]
          congr 2
          omega
        · obtain⟨t,ht,rfl⟩:=pT hu
          have ht':t<(len - (n+1))*z':=by rw[<-hnl];exact ht
          obtain⟨q1,q2⟩:=hidx t ht'
          have e1:news[t]=nw t:=by have:=IU t ht';rw[cm ht] at this;exact gV this
          rw[e1]
          exact Inv.p9 (r3 _ _ q1 q2).1
        · have q1:=Gw (kS _ z'▸ht)
          have q2:=om t h0
          have hd:=HK (t:=t) h0
          refine⟨?_,ID t (iK ht (ke _ r1))⟩
          have:=hcell _ _ q1 q2
          rw[show o+t / z'*z'+t%z'=o+t by omega] at this
          rw[this]
          rfl
        · rintro en w' ⟨rfl,q,rfl⟩
          obtain⟨W1,mH⟩:∃W1,W1=(w.drewN q).setCells g (o+n*z') news:=⟨_,rfl⟩
          rw[<-mH]
          have ck:∀p,(w.drewN q).cell? p=w.cell? p:=λp=>rfl
          have zE:Ext (Fo (some (g,o,none))) w W1:=by rw[mH];exact(⟨rfl,rfl,rfl,de _,λ_ _=>.inl rfl⟩:Ext (Fo (some (g,o,none))) w (w.drewN q)).trans ((Ext.setCells g news (o+n*z') _).mono λb k hh _=>⟨o,by rw[hh.1]⟩) λ_ _ h _=>h
          have qn:Ext (Fo (some (g,o,none))) w (W1.setCells g (o+(len - 1)*z') zv):=zE.trans ((Ext.setCells g zv (o+(len - 1)*z') _).mono λb k hh _=>⟨o,by rw[hh.1]⟩) λ_ _ h _=>h
          let σ:Nat->Nat:=λk=>if k<n then k else k+1
          have hσ:∀k,k<len - 1->σ k<len:=λk hk=>by simp only[σ];split<;>omega
          have hσi:∀k k',k≠k'->σ k≠σ k':=λk k' h=>by simp only[σ];split<;>split<;>omega
          have hcells:∀i j,i<len - 1->j<z'->(W1.setCells g (o+(len - 1)*z') zv).cell? ⟨g,o+i*z'+j,none⟩=some (e (σ i) j).val:=λi j hi hj=>by
            have hle:(i+1)*z'<=(len - 1)*z':=ke _ (by omega);rw[hmul i 1,vA] at hle;rw[World.cell?_setCells_out _ _ _ _ _ (λ_ _=>by left;simp only;omega),mH];by_cases hk:i<n
            · have hle2:(i+1)*z'<=n*z':=ke _ (by omega)
              rw[hmul i 1,vA] at hle2
              rw[World.cell?_setCells_out _ _ _ _ _ (λ_ _=>by left;simp only;omega),ck,hcell i j (by omega) hj]
              simp only[σ,aq hk]
            · have hsome:∀t,t<news.length->((w.drewN q).cell? ⟨g,o+n*z'+t,none⟩).isSome=true:=λt ht=>by
                rw[hnl] at ht;have q1:=(hidx t ht).1;have hd:=HK (t:=t) h0;have:=hcell (n+t / z') (t%z') (by omega) (om _ h0);rw[hmul n (t / z')] at this;rw[ck,show o+n*z'+t=o+(n*z'+t / z'*z')+t%z' by omega,this]
                rfl
              have hge:(i - n)*z'+n*z'=i*z':=by rw[<-hmul];congr 1;omega
              have hlt:(i - n)*z'+j<(len - (n+1))*z':=by have:(i - n+1)*z'<=(len - (n+1))*z':=ke _ (by omega);rw[hmul (i - n) 1,vA] at this;omega
              have hin:=World.cell?_setCells_in g news (o+n*z') (w.drewN q) hsome ((i - n)*z'+j) (by rw[hnl];exact hlt)
              have e1:news[(i - n)*z'+j]'(by rw[hnl];exact hlt)=nw ((i - n)*z'+j):=by have:=IU _ hlt;rw[cm (by rw[hnl];exact hlt)] at this;exact gV this
              rw[e1] at hin
              rw[show o+i*z'+j=o+n*z'+((i - n)*z'+j) by omega,hin]
              have e2:((i - n)*z'+j) / z'=i - n:=by rw[kS,LW h0,LR hj,nh]
              have e3:((i - n)*z'+j)%z'=j:=by rw[kS,Nat.mul_add_mod,LV hj]
              simp only[nw,e2,e3,σ,az hk]
              congr 3
              omega
          generalize W1.setCells g (o+(len - 1)*z') zv=w2 at qn hcells
          have Pw:∀b k,(C.row .own z' (some (g,o,none)) (len - 1) cap λi j=>e (σ i) j).fp b k->(C.row .own z' (some (g,o,none)) len cap e).fp b k:=λb k hf=>by
            obtain⟨_,hf⟩:=hf;rcases hf with hf|⟨i,j,hi,hj,hf⟩;· exact⟨rfl,.inl hf⟩
            · exact⟨rfl,.inr ⟨σ i,j,hσ i hi,hj,hf⟩⟩
          have Po:(C.row .own z' (some (g,o,none)) len cap e).er.clean=true:=by rw[h1];simp[X.clean,hcl]
          have oL:∀b k,(C.row .own z' (some (g,o,none)) len cap e).fp b k->¬zl b k:=λb k hf=>(hA.fz _ (bz ..) b k hf).1
          have abk:(C.row .own z' (some (g,o,none)) (len - 1) cap λi j=>e (σ i) j).ok w2 (Zf zl λ_ _=>False):=by
            have aa5:=C.qc _ Po hok;obtain⟨s1,s2,s3,s4,s5⟩:=aa5;refine aes ⟨s1,s2,s3,s4,s5⟩ qn (by omega) (λi j hi hj=>⟨g,o,rfl,hcells i j hi hj⟩) (λi j hi hj=>?_) (λi j hi hj b k hf=>?_)
            · obtain⟨a1,a2,a3,a4⟩:=s3 (σ i) j (hσ i hi) hj
              refine⟨a1,a2,C.eX qn (λm b k hz hs=>?_) _ (λb k hf hs=>?_) a4⟩
              · obtain⟨o',ho'⟩:=hs
                cases ho'
                have hnz:=oL g k ⟨rfl,.inl ⟨_,rfl⟩⟩
                cases m<;>simp[Zf] at hz<;>exact hnz hz
              · obtain⟨o',ho'⟩:=hs
                exact(s5 (σ i) j (hσ i hi) hj b k hf).1 rfl o' ho'
            · obtain⟨a1,a2⟩:=s5 (σ i) j (hσ i hi) hj b k hf
              refine⟨a1 rfl,λi' j' hi' hj' hne=>a2 (σ i') j' (hσ i' hi') hj' λheq=>hne ?_⟩
              have e1:σ i=σ i':=dw Prod.fst heq
              have e2:j=j':=dw Prod.snd heq
              have:i=i':=by
                by_cases q:i=i';· exact q
                · exact absurd e1 (hσi i i' q)
              rw[this,e2]
          refine⟨C.row .own z' (some (g,o,none)) (len - 1) cap λi j=>e (σ i) j,[.dead (C.row .own z' (some (g,o,none)) len cap e).val,.dead (Value.int .i64 n),.dead (Value.int .i64 ((n:Int)+1))],zl,⟨rfl,rfl,?_,⟨λx hx'=>?_,λx hx'=>?_,λx hx' b k hf=>?_,λb k hz=>?_,?_⟩,λx hx' b k hf=>?_,λ_ _ h=>h,λ_ _ h=>.inl h⟩,?_,rfl⟩
          · exact qn.mono λb k hh _=>⟨_,bz ..,⟨rfl,.inl hh⟩⟩
          · simp only[bO,mY,nj] at hx'
            rcases hx' with rfl|rfl|rfl|rfl
            · exact abk
            · trivial
            · trivial
            · trivial
          · simp only[bO,mY,nj] at hx'
            rcases hx' with rfl|rfl|rfl|rfl<;>trivial
          · simp only[bO,mY,nj] at hx'
            rcases hx' with rfl|rfl|rfl|rfl
            · exact⟨oL b k (Pw b k hf),λh=>h⟩
            · exact hf.elim
            · exact hf.elim
            · exact hf.elim
          · rcases hz with hz|hz
            · exact iK (hA.cA b k (.inl hz)) qn.size
            · exact hz.elim
          · refine eC.2 ⟨λx hx' b k hf hf'=>?_,?_⟩
            · simp only[bO,mY,nj] at hx'
              rcases hx' with rfl|rfl|rfl<;>exact hf'
            · refine eC.2 ⟨λx hx' b k hf _=>hf,eC.2 ⟨λx hx' b k hf _=>hf,LM ..⟩⟩
          · simp only[bO,mY,nj] at hx'
            rcases hx' with rfl|rfl|rfl|rfl
            · exact .inl ⟨_,bz ..,Pw b k hf⟩
            · exact hf.elim
            · exact hf.elim
            · exact hf.elim
          · show X.row .own z' _=X.row .own z' _
            congr 1
            apply gX
            intro t
            rw[List.getElem?_eraseIdx]
            by_cases ht:t<len - 1
            · rw[cS,pR ht]
              simp only[cC,σ]
              by_cases hk:t<n
              · rw[aq hk,aq hk,hrow t (by omega)]
              · rw[az hk,az hk,hrow (t+1) (by omega)]
            · rw[iL (by simp;omega)]
              split
              · omega
              · rw[iL (by omega)]
      · cases e
    · cases e
  · cases e
end M
set_option linter.unusedVariables false
set_option linter.unusedSimpArgs false
namespace M
open Go Go.RowKit Go.Sort
def JW:List (List X)->Option (List Int)
  |[]=>some []
  |[.int .i64 n]::l=>(JW l).map λr=>n::r
  |_::_=>none
def ae4(zs:List Int):List Int:=zs.mergeSort λx y=>decide (x<=y)
def ae3(f0:Nat):cr:=λf xs=>if f=f0 then (match xs with
  |[.row .own 1 rows]=>(match JW rows with
    |some zs=>if zs.length<=1073741824 then some (.aj [],[.row .own 1 ((ae4 zs).map λn=>[.int .i64 n])]) else none
    |none=>none)
  |_=>none) else none
def WO(f0:Nat):cr:=λf xs=>if f=f0 then (match xs with
  |[.row .own 1 rows]=>(match JW rows with
    |some zs=>if zs.length<=1073741824 then some (.row .own 1 ((Lib.compact zs).map λn=>[.int .i64 n]),[.dead]) else none
    |none=>none)
  |_=>none) else none
end M
