/- A machine of values for loaded Go functions, sound for the calculus of calls; part 3; no conditions. -/
import Derived.Test.YtaaeoialiegmeaaGreatDoorMb
import Derived.Sort.Grow
import Derived.Deep.Draws
import Derived.Lib.LaidTab
import Derived.MakeChecks
import Derived.Laws.BitsLemmas
import Derived.ChangeArms
import Derived.ChangeReads
import Derived.ChangeOld
import Derived.ChangeShapes
import Derived.SizedLaws
import Derived.RowKit
import Derived.Below
import Derived.Lib.ItoaNum
import Derived.Lib.TrimByte
import Derived.Lib.AtoiAllCases
import Derived.Lib.SplitLaws
import Derived.Lib.Join
import Derived.Lib.IndexMore
import Derived.HandedShaped
import Derived.Lib.Strings
import Derived.Lib.Slices
import Derived.Lib.Walk
import Derived.Stop.LaidErr
import Derived.RangeFuncNested
import Derived.RangeFuncCalls
import Derived.OrdersHeld
import Derived.OrdersIn
set_option linter.defProp false
set_option linter.unusedSectionVars false
set_option linter.unusedVariables false
set_option linter.unusedSimpArgs false
set_option linter.unusedVariables false
set_option linter.unusedSimpArgs false
namespace M
open Go
section
variable {C C':cB}{ok:FuncId->Bool}
def af0{C:cB}{d:Option Nat}{s s':ah}{f:FuncId}{xs:List X}(h:qI d s (C f xs)=some s'):∃o,C f xs=some o/\∀C':cB,C' f xs=some o->qI d s (C' f xs)=some s':=by
  cases ho:C f xs with
  |none=>rw[ho] at h;cases h
  |some o=>rw[ho] at h;exact⟨o,rfl,λC' h'=>by rw[h'];exact h⟩
def afZ{C:cB}{d:Option Nat}{as:List (AV×PM)}{back:zu}{s':ah}{f:FuncId}{xs:List X}(h:B8 d as back (C f xs)=some s'):∃o,C f xs=some o/\∀C':cB,C' f xs=some o->B8 d as back (C' f xs)=some s':=by
  cases ho:C f xs with
  |none=>rw[ho] at h;cases h
  |some o=>rw[ho] at h;exact⟨o,rfl,λC' h'=>by rw[h'];exact h⟩
def Ph{f:FuncId}{d:Option Nat}{as:List (AV×PM)}{fv:Option AV}{s s':ah}(h:rJ C f d as fv s=some s'):
    ∃xs o,C f xs=some o/\∀C':cB,C' f xs=some o->rJ C' f d as fv s=some s':=by
  unfold rJ at h⊢;by_cases hb:X.bare.jg (bZ as s).1=true
  · simp only[aA hb] at h⊢
    cases hm:dY as with
    |none=>
      simp only[hm] at h⊢
      by_cases hc:vW (bZ as s).2 fv f=true
      · simp only[aA hc] at h⊢
        obtain⟨o,h1,h2⟩:=af0 h
        exact⟨_,o,h1,h2⟩
      · simp only[aC hc] at h;cases h
    |some xn=>
      obtain⟨x,n⟩:=xn
      simp only[hm] at h⊢
      unfold Ej at h⊢
      split at h
      · split at h
        · rename_i y back h1 h2
          simp only[h1,aA h2]
          obtain⟨o,h1,h2⟩:=afZ h
          exact⟨_,o,h1,h2⟩
        · cases h
      · cases h
  · simp only[aC hb] at h;cases h
def PX{o:cF}{s s':ah}(h:cQ C ok o s=some s'):(∀C':cB,cQ C' ok o s=some s')\/∃f xs r,C f xs=some r/\∀C':cB,C' f xs=some r->cQ C' ok o s=some s':=by
  cases o with
  |call d f as=>obtain⟨xs,o,h1,h2⟩:=Ph (C:=C) h;exact .inr ⟨f,xs,o,h1,h2⟩
  |om d x as=>
    simp only[cQ] at h⊢;split at h
    · rename_i f caps hf
      split at h
      · rename_i hok
        obtain⟨xs,o,h1,h2⟩:=Ph (C:=C) h
        refine .inr ⟨f,xs,o,h1,λC' h'=>?_⟩
        simp only[aA hok]
        exact h2 C' h'
      · cases h
    · cases h
  |rI d f x as=>
    simp only[cQ] at h⊢;split at h
    · rename_i cs h1
      split at h
      · rename_i h2
        simp only[aA h2]
        refine .inr ?_
        cases ho:C f (.agg (cg cs s).1::gD (cg cs s).2 .dead as (as.map λ_=>.dead)) with
        |none=>rw[ho] at h;cases h
        |some r=>rw[ho] at h;exact⟨f,_,r,ho,λC' h'=>by rw[h'];exact h⟩
      · cases h
    · cases h
  |_=>exact .inl λ_=>h
def PT{g:G}{s s':ah}(h:eG C ok g s=some s'):(∀C':cB,eG C' ok g s=some s')\/∃f xs r,C f xs=some r/\∀C':cB,C' f xs=some r->eG C' ok g s=some s':=by
  obtain⟨gg,o⟩:=g;cases gg with
  |none=>exact PX h
  |some tb=>
    obtain⟨t,b⟩:=tb;simp only[eG] at h⊢;split at h
    · rename_i v hv
      split at h
      · rename_i h1
        simp only[hv,aA h1]
        exact PX h
      · rename_i h1
        simp only[hv,aC h1]
        exact .inl λ_=>h
    · exact .inl λ_=>h
    · cases h
def cB.le(C C':cB):Prop:=∀f xs o,C f xs=some o->C' f xs=some o
def PV(hl:C.le C'){g:G}{s s':ah}(h:eG C ok g s=some s'):eG C' ok g s=some s':=by
  rcases PT h with h|⟨f,xs,r,h1,h2⟩;· exact h _
  · exact h2 _ (hl _ _ _ h1)
def JN(hl:C.le C'):∀{l:List G} {s s':ah},j8 C ok l s=some s'->j8 C' ok l s=some s'
  |[],_,_,h=>h
  |g::l,s,s',h=>by
    simp only[j8] at h⊢;cases h1:eG C ok g s with
    |none=>rw[h1] at h;cases h
    |some s1=>rw[h1] at h;rw[PV hl h1];exact JN hl h
def wk(hl:C.le C'):∀{t:DT} {s s':ah},eD C ok t s=some s'->eD C' ok t s=some s'
  |.nil _,_,_,h=>h
  |.step _ g l,s,s',h=>by
    simp only[eD] at h⊢;cases h1:eG C ok g s with
    |none=>rw[h1] at h;cases h
    |some s1=>rw[h1] at h;rw[PV hl h1];exact wk hl h
  |.alt a b,s,s',h=>by
    simp only[eD] at h⊢;unfold same at h;split at h
    · rename_i x y hx hy
      rw[wk hl hx,wk hl hy]
      exact h
    · cases h
  |.kp _ t,s,s',h=>wk (t:=t) hl h
def Ia{k k':ah->cG}{r r':cG}{o:Ex×ah}(h:fG k r=some o)(hr:∀x,r=some x->r'=some x)(hk:∀s,k s=some o->k' s=some o):fG k' r'=some o:=by
  unfold fG at h;split at h;· rw[hr _ rfl];exact hk _ h
  · rw[hr _ rfl];exact h
  · rw[hr _ rfl];exact h
  · cases h
def w9{f f':ah->cG}(hf:∀s o,f s=some o->f' s=some o):∀{n m:Nat} {s:ah} {o:Ex×ah},n<=m->iter f n s=some o->iter f' m s=some o
  |0,_,_,_,_,h=>by cases h
  |n+1,0,_,_,hn,_=>by omega
  |n+1,m+1,s,o,hn,h=>Ia h (hf s) λs' h'=>w9 hf (by omega) h'
end
noncomputable def aJ(f:ah->cG)(s:ah):cG:=by classical exact if h:∃o:Ex×ah,∃n,iter f n s=some o then some (Classical.choose h) else none
def BG{f:ah->cG}{s:ah}{o:Ex×ah}{n:Nat}(h:iter f n s=some o):aJ f s=some o:=by have hh:∃o:Ex×ah,∃n,iter f n s=some o:=⟨o,n,h⟩;unfold aJ;rw[jV hh];obtain⟨m,hm⟩:=DH hh;have h1:=w9 (λ_ _ h=>h) (Nat.le_max_left m n) hm;have h2:=w9 (λ_ _ h=>h) (Nat.le_max_right m n) h;rw[h1] at h2;exact h2
def Lq{f:ah->cG}{s:ah}{o:Ex×ah}(h:aJ f s=some o):∃n,iter f n s=some o:=by
  unfold aJ at h;split at h
  · rename_i hh
    cases h
    exact DH hh
  · cases h
def LJ{α:Type}{a b:Option α}(h1:∀x,a=some x->b=some x)(h2:∀x,b=some x->a=some x):a=b:=by
  cases a with
  |none=>cases b with
    |none=>rfl
    |some y=>exact h2 y rfl
  |some x=>exact(h1 x rfl).symm
def dS(f:ah->cG)(s:ah):aJ f s=fG (aJ f) (f s):=by
  refine LJ (λo h=>?_) λo h=>?_
  · obtain⟨n,hn⟩:=Lq h
    cases n with
    |zero=>cases hn
    |succ n=>exact Ia hn (λ_ h=>h) λs' h'=>BG h'
  · unfold fG at h
    split at h
    · rename_i s' hs
      obtain⟨n,hn⟩:=Lq h
      refine BG (n:=n+1) ?_
      simp only[iter,hs,fG];exact hn
    · rename_i hs;refine BG (n:=1) ?_;simp only[iter,hs,fG];exact h
    · rename_i hs;refine BG (n:=1) ?_;simp only[iter,hs,fG];exact h
    · cases h
noncomputable def ak(C:cB)(ok:FuncId->Bool):A->ah->cG
  |.skip,s=>some (.normal,s)
  |.ret,s=>some (.ret,s)
  |.exit id,s=>some (.exit id,s)
  |.ops l,s=>iS (j8 C ok l s)
  |.draw t,s=>iS (eD C ok t s)
  |.seq a b,s=>fG (ak C ok b) (ak C ok a s)
  |.cond c a b,s=>match ax s c with
    |.bool t=>if t=true then ak C ok a s else ak C ok b s
    |_=>none
  |.block id b,s=>lg id (ak C ok b s)
  |.loop b,s=>aJ (ak C ok b) s
  |.pk ks b,s=>lR ks (ak C ok b s)
def Gc{a b:Option ah}(h:∀s,a=some s->b=some s){o:Ex×ah}(ho:iS a=some o):iS b=some o:=by
  unfold iS at ho;split at ho;· rw[h _ rfl];exact ho
  · cases ho
def OH{id:Nat}{a b:cG}(h:∀s,a=some s->b=some s){o:Ex×ah}(ho:lg id a=some o):lg id b=some o:=by
  cases a with
  |none=>cases ho
  |some x=>rw[h _ rfl];exact ho
def SX{ks:List Nat}{a b:cG}(h:∀s,a=some s->b=some s){o:Ex×ah}(ho:lR ks a=some o):lR ks b=some o:=by
  cases a with
  |none=>cases ho
  |some x=>rw[h _ rfl];exact ho
def YC{C C':cB}{ok:FuncId->Bool}(hl:C.le C'){N:Nat}:∀{t:A} {s:ah} {o:Ex×ah},eA C ok N t s=some o->ak C' ok t s=some o:=by
  intro t;induction t with
  |skip=>intro s o h;exact h
  |ret=>intro s o h;exact h
  |exit id=>intro s o h;exact h
  |ops l=>intro s o h;exact Gc (λs' h'=>JN hl h') h
  |draw l=>intro s o h;exact Gc (λs' h'=>wk hl h') h
  |seq a b iP kj=>intro s o h;exact Ia h (λx hx=>iP hx) λs' h'=>kj h'
  |cond c a b iP kj=>
    intro s o h;simp only[eA] at h;simp only[ak];split at h
    · rename_i t ht
      try rw[ht]
      cases t with
      |true=>exact iP h
      |false=>exact kj h
    · cases h
  |block id b ih=>intro s o h;exact OH (λx hx=>ih hx) h
  |loop b ih=>intro s o h;exact BG (w9 (λs o h=>ih h) (dF _) h)
  |pk ks b ih=>intro s o h;exact SX (λx hx=>ih hx) h
def YD{C C':cB}{ok:FuncId->Bool}(hl:C.le C'){N N':Nat}(hN:N<=N'):∀{t:A} {s:ah} {o:Ex×ah},eA C ok N t s=some o->eA C' ok N' t s=some o:=by
  intro t;induction t with
  |skip=>intro s o h;exact h
  |ret=>intro s o h;exact h
  |exit id=>intro s o h;exact h
  |ops l=>intro s o h;exact Gc (λs' h'=>JN hl h') h
  |draw l=>intro s o h;exact Gc (λs' h'=>wk hl h') h
  |seq a b iP kj=>intro s o h;exact Ia h (λx hx=>iP hx) λs' h'=>kj h'
  |cond c a b iP kj=>
    intro s o h;simp only[eA] at h⊢;split at h
    · rename_i t ht
      cases t with
      |true=>exact iP h
      |false=>exact kj h
    · cases h
  |block id b ih=>intro s o h;exact OH (λx hx=>ih hx) h
  |loop b ih=>intro s o h;exact w9 (λs o h=>ih h) hN h
  |pk ks b ih=>intro s o h;exact SX (λx hx=>ih hx) h
def EF{L:cB}{T:iL}:∀{n m:Nat},n<=m->(exec L T n).le (exec L T m)
  |0,_,_,_,_,_,h=>by cases h
  |n+1,0,hn,_,_,_,_=>by omega
  |n+1,m+1,hn,f,xs,o,h=>by
    have hnm:n<=m:=by omega
    simp only[exec] at h⊢;split at h
    · rename_i F hF
      unfold eF at h⊢
      split at h
      · rename_i hl
        rw[aA hl]
        cases hr:eA (exec L T n) (au T) n F.body (mX xs) with
        |none=>rw[hr] at h;cases h
        |some r=>rw[hr] at h;rw[YD (EF hnm) hnm hr];exact h
      · cases h
    · exact h
noncomputable def ev(L:cB)(T:iL):cB:=λf xs=>by classical exact if h:∃o:Out,∃n,exec L T n f xs=some o then some (Classical.choose h) else none
def JQ{L:cB}{T:iL}{f:FuncId}{xs:List X}{o:Out}{n:Nat}(h:exec L T n f xs=some o):ev L T f xs=some o:=by have hh:∃o:Out,∃n,exec L T n f xs=some o:=⟨o,n,h⟩;unfold ev;rw[jV hh];obtain⟨m,hm⟩:=DH hh;have h1:=EF (Nat.le_max_left m n) f xs _ hm;have h2:=EF (Nat.le_max_right m n) f xs _ h;rw[h1] at h2;exact h2
def ED{L:cB}{T:iL}{f:FuncId}{xs:List X}{o:Out}(h:ev L T f xs=some o):∃n,exec L T n f xs=some o:=by
  unfold ev at h;split at h
  · rename_i hh
    cases h
    exact DH hh
  · cases h
def YR(L:cB)(T:iL)(n:Nat):(exec L T n).le (ev L T):=λ_ _ _ h=>JQ h
def YQ[Bs]{P:Program}{L:cB}{T:iL}(hL:L.Sound P)(hT:T.Ok P):(ev L T).Sound P:=λf xs o h=>by obtain⟨n,hn⟩:=ED h;exact P9 hL hT n f xs o hn
section
variable {L:cB}{T:iL}
def PU{g:G}{s s':ah}(h:eG (ev L T) (au T) g s=some s'):∃n,∀m,n<=m->eG (exec L T m) (au T) g s=some s':=by
  rcases PT h with h|⟨f,xs,r,h1,h2⟩;· exact⟨0,λm _=>h _⟩
  · obtain⟨n,hn⟩:=ED h1
    exact⟨n,λm hm=>h2 _ (EF hm f xs r hn)⟩
def PZ:∀{l:List G} {s s':ah},j8 (ev L T) (au T) l s=some s'->∃n,∀m,n<=m->j8 (exec L T m) (au T) l s=some s'
  |[],s,s',h=>⟨0,λm _=>h⟩
  |g::l,s,s',h=>by
    simp only[j8] at h⊢;cases h1:eG (ev L T) (au T) g s with
    |none=>rw[h1] at h;cases h
    |some s1=>rw[h1] at h;obtain⟨n1,jo⟩:=PU h1;obtain⟨n2,hn2⟩:=PZ (l:=l) h;exact⟨max n1 n2,λm hm=>by rw[jo m (by omega)];exact hn2 m (by omega)⟩
def Ag:∀{l:DT} {s s':ah},eD (ev L T) (au T) l s=some s'->∃n,∀m,n<=m->eD (exec L T m) (au T) l s=some s'
  |.nil _,s,s',h=>⟨0,λm _=>h⟩
  |.step _ g l,s,s',h=>by
    simp only[eD] at h⊢;cases h1:eG (ev L T) (au T) g s with
    |none=>rw[h1] at h;cases h
    |some s1=>rw[h1] at h;obtain⟨n1,jo⟩:=PU h1;obtain⟨n2,hn2⟩:=Ag (l:=l) h;exact⟨max n1 n2,λm hm=>by rw[jo m (by omega)];exact hn2 m (by omega)⟩
  |.alt a b,s,s',h=>by
    simp only[eD] at h⊢;unfold same at h;split at h
    · rename_i x y hx hy
      obtain⟨n1,jo⟩:=Ag hx
      obtain⟨n2,hn2⟩:=Ag hy
      exact⟨max n1 n2,λm hm=>by rw[jo m (by omega),hn2 m (by omega)];exact h⟩
    · cases h
  |.kp _ t,s,s',h=>Ag (l:=t) h
def SB{a:Option ah}{b:Nat->Option ah}(h:∀s,a=some s->∃n,∀m,n<=m->b m=some s){o:Ex×ah}(ho:iS a=some o):∃n,∀m,n<=m->iS (b m)=some o:=by
  cases a with
  |none=>cases ho
  |some s=>obtain⟨n,hn⟩:=h s rfl;exact⟨n,λm hm=>by rw[hn m hm];exact ho⟩
def YO:∀{t:A} {s:ah} {o:Ex×ah},ak (ev L T) (au T) t s=some o->∃n,∀m,n<=m->eA (exec L T m) (au T) m t s=some o:=by
  intro t;induction t with
  |skip=>intro s o h;exact⟨0,λm _=>h⟩
  |ret=>intro s o h;exact⟨0,λm _=>h⟩
  |exit id=>intro s o h;exact⟨0,λm _=>h⟩
  |ops l=>intro s o h;exact SB (λs h=>PZ h) h
  |draw l=>intro s o h;exact SB (λs h=>Ag h) h
  |seq a b iP kj=>
    intro s o h;simp only[ak] at h;simp only[eA];cases hr:ak (ev L T) (au T) a s with
    |none=>rw[hr] at h;cases h
    |some r=>
      rw[hr] at h;obtain⟨n1,jo⟩:=iP hr;obtain⟨e,s1⟩:=r;cases e with
      |normal=>obtain⟨n2,hn2⟩:=kj (s:=s1) h;exact⟨max n1 n2,λm hm=>by rw[jo m (by omega)];exact hn2 m (by omega)⟩
      |exit i=>exact⟨n1,λm hm=>by rw[jo m hm];exact h⟩
      |ret=>exact⟨n1,λm hm=>by rw[jo m hm];exact h⟩
  |cond c a b iP kj=>
    intro s o h;simp only[ak] at h;simp only[eA];split at h
    · rename_i t ht
      try rw[ht]
      cases t with
      |true=>exact iP h
      |false=>exact kj h
    · cases h
  |block id b ih=>
    intro s o h;simp only[ak] at h;simp only[eA];cases hr:ak (ev L T) (au T) b s with
    |none=>rw[hr] at h;cases h
    |some r=>rw[hr] at h;obtain⟨n1,jo⟩:=ih hr;exact⟨n1,λm hm=>by rw[jo m hm];exact h⟩
  |pk ks b ih=>
    intro s o h;simp only[ak] at h;simp only[eA];cases hr:ak (ev L T) (au T) b s with
    |none=>rw[hr] at h;cases h
    |some r=>rw[hr] at h;obtain⟨n1,jo⟩:=ih hr;exact⟨n1,λm hm=>by rw[jo m hm];exact h⟩
  |loop b ih=>
    intro s o h;simp only[ak] at h;obtain⟨n,hn⟩:=Lq h
    have go:∀(n:Nat) (s:ah),iter (ak (ev L T) (au T) b) n s=some o->∃k,∀m,k<=m->iter (eA (exec L T m) (au T) m b) n s=some o:=by
      intro n;induction n with
      |zero=>intro s h;cases h
      |succ n ihn=>
        intro s h;simp only[iter] at h⊢;cases hr:ak (ev L T) (au T) b s with
        |none=>rw[hr] at h;cases h
        |some r=>
          rw[hr] at h;obtain⟨n1,jo⟩:=ih hr;obtain⟨e,s1⟩:=r;cases e with
          |normal=>obtain⟨n2,hn2⟩:=ihn s1 h;exact⟨max n1 n2,λm hm=>by rw[jo m (by omega)];exact hn2 m (by omega)⟩
          |exit i=>exact⟨n1,λm hm=>by rw[jo m hm];exact h⟩
          |ret=>exact⟨n1,λm hm=>by rw[jo m hm];exact h⟩
    obtain⟨k,hk⟩:=go n s hn;refine⟨max k n,λm hm=>?_⟩;simp only[eA];exact w9 (λ_ _ h=>h) (by omega) (hk m (by omega))
noncomputable def EC(L:cB)(T:iL)(F:Fn)(xs:List X):Option Out:=
  if xs.length=F.n then fin F (ak (ev L T) (au T) F.body (mX xs)) else none
def YP{f:FuncId}{F:Fn}(hF:T f=some F)(xs:List X):ev L T f xs=EC L T F xs:=by
  refine LJ (λo h=>?_) λo h=>?_
  · obtain⟨n,hn⟩:=ED h
    cases n with
    |zero=>cases hn
    |succ n=>
      simp only[exec,hF] at hn
      unfold eF at hn
      unfold EC
      split at hn
      · rename_i hl
        rw[aA hl]
        cases hr:eA (exec L T n) (au T) n F.body (mX xs) with
        |none=>rw[hr] at hn;cases hn
        |some r=>rw[hr] at hn;rw[YC (YR L T n) hr];exact hn
      · cases hn
  · unfold EC at h
    split at h
    · rename_i hl
      cases hr:ak (ev L T) (au T) F.body (mX xs) with
      |none=>rw[hr] at h;cases h
      |some r=>
        rw[hr] at h
        obtain⟨n,hn⟩:=YO hr
        refine JQ (n:=n+1) ?_
        simp only[exec,hF,eF,aA hl,hn n (dF n)]
        exact h
    · cases h
def ox{f:FuncId}(hF:T f=none)(xs:List X):ev L T f xs=L f xs:=by
  refine LJ (λo h=>?_) λo h=>?_
  · obtain⟨n,hn⟩:=ED h
    cases n with
    |zero=>cases hn
    |succ n=>simpa only[exec,hF] using hn
  · refine JQ (n:=1) ?_
    simpa only[exec,hF] using h
end
end M
set_option linter.unusedVariables false
set_option linter.unusedSimpArgs false
namespace M
open Go
section
variable {C:cB}{ok:FuncId->Bool}{T:iL}
@[simp] def al8(s:ah):ak C ok .skip s=some (.normal,s):=rfl
@[simp] def al6(s:ah):ak C ok .ret s=some (.ret,s):=rfl
@[simp] def al2(i:Nat)(s:ah):ak C ok (.exit i) s=some (.exit i,s):=rfl
@[simp] def al4(l:List G)(s:ah):ak C ok (.ops l) s=iS (j8 C ok l s):=rfl
@[simp] def al1(t:DT)(s:ah):ak C ok (.draw t) s=iS (eD C ok t s):=rfl
@[simp] def al7(a b:A)(s:ah):ak C ok (.seq a b) s=fG (ak C ok b) (ak C ok a s):=rfl
@[simp] def alZ(i:Nat)(b:A)(s:ah):ak C ok (.block i b) s=lg i (ak C ok b s):=rfl
@[simp] def al3(b:A)(s:ah):ak C ok (.loop b) s=aJ (ak C ok b) s:=rfl
@[simp] def al5(ks:List Nat)(b:A)(s:ah):ak C ok (.pk ks b) s=lR ks (ak C ok b s):=rfl
noncomputable def PD(C:cB)(ok:FuncId->Bool)(a b:A)(s:ah):X->cG
  |.bool t=>if t=true then ak C ok a s else ak C ok b s
  |_=>none
@[simp] def al0(c:AV)(a b:A)(s:ah):ak C ok (.cond c a b) s=PD C ok a b s (ax s c):=by simp only[ak];cases ax s c<;>rfl
@[simp] def alv(a b:A)(s:ah)(t:Bool):PD C ok a b s (.bool t)=if t=true then ak C ok a s else ak C ok b s:=rfl
@[simp] def alX(s:ah):j8 C ok [] s=some s:=rfl
@[simp] def alW(g:G)(l:List G)(s:ah):j8 C ok (g::l) s=(eG C ok g s).bind (j8 C ok l):=rfl
@[simp] def alS(ks:List Nat)(s:ah):eD C ok (.nil ks) s=some (keep ks s):=rfl
@[simp] def alT(i:Nat)(g:G)(t:DT)(s:ah):eD C ok (.step i g t) s=(eG C ok g s).bind (eD C ok t):=rfl
@[simp] def alQ(a b:DT)(s:ah):eD C ok (.alt a b) s=same (eD C ok a s) (eD C ok b s):=rfl
@[simp] def alR(ks:List Nat)(t:DT)(s:ah):eD C ok (.kp ks t) s=eD C ok t (keep ks s):=rfl
@[simp] def anN(s:ah):same (some s) (some s)=some s:=by
  have:rR s s=true:=by
    induction s with
    |nil=>rfl
    |cons a l ih=>obtain⟨k,x⟩:=a;simp[rR,X.P7,ih]
  simp[same,this]
@[simp] def akK(c:Prop)[Decidable c](a b:Option ah)(f:ah->Option ah):(if c then a else b).bind f=if c then a.bind f else b.bind f:=by split<;>rfl
def EW(C:cB)(ok:FuncId->Bool)(o:cF)(t:Nat)(b:Bool)(s:ah):X->Option ah
  |.bool v=>if v=b then cQ C ok o ((t,.bool b)::s) else some (fX o.dst (.aj []) ((t,.bool (!b))::s))
  |.aj []=>some (fX o.dst (.aj []) s)
  |_=>none
@[simp] def alU(o:cF)(s:ah):eG C ok ⟨none,o⟩ s=cQ C ok o s:=rfl
@[simp] def alV(t:Nat)(b:Bool)(o:cF)(s:ah):eG C ok ⟨some (t,b),o⟩ s=EW C ok o t b s (get s t):=by simp only[eG];split<;>simp_all[EW]
@[simp] def amm(o:cF)(t:Nat)(b v:Bool)(s:ah):EW C ok o t b s (.bool v)=if v=b then cQ C ok o ((t,.bool b)::s) else some (fX o.dst (.aj []) ((t,.bool (!b))::s)):=rfl
@[simp] def amn(o:cF)(t:Nat)(b:Bool)(s:ah):EW C ok o t b s (.aj [])=some (fX o.dst (.aj []) s):=rfl
@[simp] def anu(s:ah):iS (some s)=some (.normal,s):=rfl
@[simp] def ant:iS none=none:=rfl
@[simp] def ans(c:Prop)[Decidable c](a b:Option ah):iS (if c then a else b)=if c then iS a else iS b:=by split<;>rfl
@[simp] def ag9(k:ah->cG)(s:ah):fG k (some (.normal,s))=k s:=rfl
@[simp] def anP(k:ah->cG)(i:Nat)(s:ah):fG k (some (.exit i,s))=some (.exit i,s):=rfl
@[simp] def anS(k:ah->cG)(s:ah):fG k (some (.ret,s))=some (.ret,s):=rfl
@[simp] def anR(k:ah->cG):fG k none=none:=rfl
@[simp] def anQ(k:ah->cG)(c:Prop)[Decidable c](a b:cG):fG k (if c then a else b)=if c then fG k a else fG k b:=by split<;>rfl
@[simp] def akO(i:Nat)(s:ah):lg i (some (.normal,s))=some (.normal,s):=rfl
@[simp] def akL(i j:Nat)(s:ah):lg i (some (.exit j,s))=if j=i then some (.normal,s) else some (.exit j,s):=rfl
@[simp] def akP(i:Nat)(s:ah):lg i (some (.ret,s))=some (.ret,s):=rfl
@[simp] def akN(i:Nat):lg i none=none:=rfl
@[simp] def akM(i:Nat)(c:Prop)[Decidable c](a b:cG):lg i (if c then a else b)=if c then lg i a else lg i b:=by split<;>rfl
@[simp] def anG(ks:List Nat)(s:ah):lR ks (some (.normal,s))=some (.normal,keep ks s):=rfl
@[simp] def anD(ks:List Nat)(i:Nat)(s:ah):lR ks (some (.exit i,s))=some (.exit i,s):=rfl
@[simp] def anH(ks:List Nat)(s:ah):lR ks (some (.ret,s))=some (.ret,s):=rfl
@[simp] def anF(ks:List Nat):lR ks none=none:=rfl
@[simp] def anE(ks:List Nat)(c:Prop)[Decidable c](a b:cG):lR ks (if c then a else b)=if c then lR ks a else lR ks b:=by split<;>rfl
def ud(rs:List RV)(n:Nat):cG->Option Out
  |some (.exit _,_)=>none
  |some (_,s)=>if X.clean.cL (ef rs s).1=true/\(ef rs s).1.any X.mB=false then some (uL (ef rs s).1,qH 0 n (ef rs s).2) else none
  |none=>none
def JV(rs:List RV)(n:Nat)(s:ah):Option Out:=if X.clean.cL (ef rs s).1=true/\(ef rs s).1.any X.mB=false then some (uL (ef rs s).1,qH 0 n (ef rs s).2) else none
def aq{L:cB}{T:iL}{f:FuncId}{b:A}{rs:List RV}{n:Nat}(h:T f=some ⟨b,rs,n⟩){xs:List X}(hl:xs.length=n):ev L T f xs=ud rs n (ak (ev L T) (au T) b (mX xs)):=by rw[YP h];unfold EC;rw[aA hl];rfl
@[simp] def aml(rs:List RV)(n:Nat)(s:ah):ud rs n (some (.ret,s))=JV rs n s:=rfl
@[simp] def amk(rs:List RV)(n:Nat)(s:ah):ud rs n (some (.normal,s))=JV rs n s:=rfl
@[simp] def amj(rs:List RV)(n:Nat):ud rs n none=none:=rfl
@[simp] def ami(rs:List RV)(n:Nat)(c:Prop)[Decidable c](a b:cG):ud rs n (if c then a else b)=if c then ud rs n a else ud rs n b:=by split<;>rfl
@[simp] def anK(d:Option Nat)(s:ah)(r:X)(ps:List X):qI d s (some (r,ps))=some (fX d r s):=rfl
@[simp] def anJ(d:Option Nat)(s:ah):qI d s none=none:=rfl
@[simp] def anI(d:Option Nat)(s:ah)(c:Prop)[Decidable c](a b:Option Out):qI d s (if c then a else b)=if c then qI d s a else qI d s b:=by split<;>rfl
end
attribute [simp] JV cQ mX Df Dg ef qH post uL X.mB X.clean X.clean.cL X.clean.bz keep Ii D9 rJ vW
end M
set_option linter.unusedVariables false
set_option linter.unusedSimpArgs false
namespace M
open Go
def z7(z bytes:Nat):A:=(.seq (.pk [0] (.ops [⟨none,.bh 2 .aX (.k (.row .own z []))⟩])) (.seq (.seq (.pk [0,4] (.ops [⟨none,.mv 3 (.t 0)⟩,⟨none,.sH 4 false (.t 3)⟩])) (.pk [0] (.cond (.t 4) (.seq (.pk [2,7] (.ops [⟨none,.bh 2 .aX (.k (.row .own z []))⟩])) .ret) .skip))) (.seq (.pk [2,7] (.ops [⟨none,.lit 5 .mv z []⟩,⟨none,.mv 6 (.t 0)⟩,⟨none,.app 7 .al z bytes (.t 5) (.t 6)⟩,⟨none,.bh 2 .aX (.t 7)⟩])) .ret)))
def Px:∀{rows:List (List X)},fY rows=true->X.clean.bz rows=true
  |[],_=>rfl
  |e::l,h=>by
    simp only[fY,av,pI] at h
    have h1:X.clean.cL e=true:=by
      have h2:=h.1;clear h;induction e with
      |nil=>rfl
      |cons x e ih=>have hx:=h2 x (bE ..);have he:=ih λy hy=>h2 y (cE _ hy);cases x<;>simp_all[scalar,X.clean.cL,X.clean]
    simp only[X.clean.bz,h1,Px h.2,Bool.and_self]
def Ym[Bs]{P:Program}{f:FuncId}{z bytes:Nat}(hT:Told P f (z7 z bytes) [.t 2] 1){rows:List (List X)}(h1:rows.length*bytes<=140737488355328)(h2:fY rows=true)(h4:mG rows=true\/rows=[]):
    AC P f [.row .af z rows] λr ps=>r=.row .own z rows/\ps=[.dead]:=by
  refine hT.ac rfl ?_;have h3:=M0 h2;have h5:=Px h2;simp[z7,eV,kF,pR,aM,base,Ends,h1,h3,h5];intro h6;rcases h4 with h4|h4;· rw[h4] at h6;cases h6
  · subst h4;simp
def lp(f0 z bytes:Nat):cB:=λf xs=>if f=f0 then (match xs with
  |[.row .af z' rows]=>if z'=z/\rows.length*bytes<=140737488355328/\fY rows=true/\(mG rows=true\/rows=[]) then some (.row .own z rows,[.dead]) else none
  |_=>none) else none
def Py[Bs]{P:Program}{f0 z bytes:Nat}(hT:Told P f0 (z7 z bytes) [.t 2] 1):(lp f0 z bytes).Sound P:=λf xs o h=>by
  unfold lp at h;split at h
  · rename_i hf
    subst hf
    split at h
    · split at h
      · rename_i hc
        obtain⟨rfl,c1,c2,c3⟩:=hc
        cases h
        exact Ym hT c1 c2 c3
      · cases h
    · cases h
  · cases h
def gv(L L':cB):cB:=λf xs=>match L f xs with
  |some o=>some o
  |none=>L' f xs
def qF[Bs]{P:Program}{L L':cB}(h:L.Sound P)(h':L'.Sound P):(gv L L').Sound P:=λf xs o e=>by
  unfold gv at e;split at e
  · rename_i o' e'
    cases e
    exact h f xs _ e'
  · exact h' f xs _ e
end M
set_option linter.unusedVariables false
set_option linter.unusedSimpArgs false
namespace M
open Go
def sv:X->Value
  |.int k n=>.int k n
  |.bool b=>.bool b
  |.str s=>.string s
  |_=>undef
def ag0{c:C}(h:scalar c.er=true):c.val=sv c.er:=by cases c<;>first|rfl|(simp[C.er,scalar] at h)
def Di:X->Bool
  |.str s=>decide (s.size<=9223372036854775807)
  |x=>scalar x
def kW(f0:FuncId)(g:List X->Option X):cB:=λf xs=>if f=f0 then (match g xs with
  |some r=>if xs.all scalar=true/\Di r=true then some (r,xs.map λ_=>.dead) else none
  |none=>none) else none
end M
set_option linter.unusedVariables false
set_option linter.unusedSimpArgs false
namespace M
open Go Go.Sort
def oh[B:Bs](w:World):Prop:=∀b,b<B.W0.heap.size->w.heap[b]?=B.W0.heap[b]?
def We[Bs]{P:Program}{f:FuncId}{xs:List X}{r:X}(hx:∀x∈xs,scalar x=true)(hr:Di r=true)
    (h:∀w,oh w->Calls P f (xs.map sv).toArray w λe w'=>e=.returned (sv r)/\∃k os,w'=grow (w.drewN k) os):AC P f xs λr' ps=>r'=r/\ps=xs.map λ_=>.dead:=by
  intro w zl zb cs e hA jm;have hv:cs.map C.val=xs.map sv:=by rw[<-e,cP];exact cz λc hc=>ag0 (hx _ (e▸kA hc))
  rw[hv];refine(h w λb hb=>(jm b hb).1).mono λe' w' ⟨he,k,os,hw⟩=>?_;subst hw;have hsz:w.heap.size<=(grow (w.drewN k) os).heap.size:=by simp[grow,World.drewN]
  have hs:∃c:C,c.er=r/\c.val=sv r/\c.ok (grow (w.drewN k) os) (Zf zl λ_ _=>False)/\c.bare/\∀b k,¬c.fp b k:=by
    cases r with
    |int k n=>exact⟨.int k n,rfl,rfl,trivial,trivial,λ_ _ h=>h⟩
    |bool b=>exact⟨.bool b,rfl,rfl,trivial,trivial,λ_ _ h=>h⟩
    |str s=>exact⟨.str s,rfl,rfl,by simp[Di] at hr;exact hr,trivial,λ_ _ h=>h⟩
    |_=>simp[Di,scalar] at hr
  obtain⟨c,c1,c2,c3,c4,c5⟩:=hs;have AL:Ext (λb k=>∃x∈cs,x.fp b k) w (grow (w.drewN k) os):=⟨rfl,rfl,rfl,hsz,λb hb=>.inl (by show (w.heap++os)[b]?=w.heap[b]?;exact NY hb)⟩
  refine⟨c,cs.map λx=>.dead x.val,zl,⟨by rw[he,c2],by rw[cP];rfl,AL,⟨λx hx'=>?_,λx hx'=>?_,λx hx' b k hf=>?_,λb k hz=>jT (hA.cI b k (hz.imp id λh=>h.elim)) hsz,?_⟩,λx hx' b k hf=>?_,λ_ _ h=>h,λ_ _ h=>.inl h⟩,c1,?_⟩
  · rcases ct.1 hx' with rfl|hx'
    · exact c3
    · obtain⟨y,_,rfl⟩:=aT.1 hx';trivial
  · rcases ct.1 hx' with rfl|hx'
    · exact c4
    · obtain⟨y,_,rfl⟩:=aT.1 hx';trivial
  · rcases ct.1 hx' with rfl|hx'
    · exact(c5 b k hf).elim
    · obtain⟨y,_,rfl⟩:=aT.1 hx';exact hf.elim
  · refine eZ.2 ⟨λx _ b k hf=>(c5 b k hf).elim,?_⟩
    refine nY.2 λi j hi hj _ b k hf=>?_
    obtain⟨y,_,hy⟩:=aT.1 (cN hi)
    rw[<-hy] at hf
    exact hf.elim
  · rcases ct.1 hx' with rfl|hx'
    · exact(c5 b k hf).elim
    · obtain⟨y,_,rfl⟩:=aT.1 hx';exact hf.elim
  · rw[<-e]
    simp[cP,IK,C.er]
def abW[Bs]{P:Program}{f0:FuncId}{g:List X->Option X}(h:∀xs r,g xs=some r->∀w,oh w->Calls P f0 (xs.map sv).toArray w λe w'=>e=.returned (sv r)/\∃k os,w'=grow (w.drewN k) os):(kW f0 g).Sound P:=λf xs o e=>by
  unfold kW at e;split at e
  · rename_i hf
    subst hf
    split at e
    · rename_i r hr
      split at e
      · rename_i hc
        cases e
        exact We (pI.1 hc.1) hc.2 (h xs r hr)
      · cases e
    · cases e
  · cases e
def TabIs.same[B:Bs]{P:Program}{w:World}{n:String}{k:IntKind}{zs:List Int}(h:Lib.TabIs P B.W0 n k zs)(hw:oh w):Lib.TabIs P w n k zs:=by
  unfold Lib.TabIs World.var? at h⊢;cases hg:P.globalNamed n with
  |none=>rw[hg] at h;cases h
  |some g=>
    rw[hg] at h;simp only[ja] at h⊢
    have hlt:g<B.W0.heap.size:=by
      rcases gB g B.W0.heap.size with h'|h';· exact h'
      · rw[kC h'] at h;cases h
    rw[hw g hlt];exact h
def ag3{P:Program}{W:World}{name:String}{k:IntKind}{zs:List Int}{g:Nat}{t e:TypeId}{n:Nat}
    (hg:P.globalNamed name=some g)(hty:(P.globals[g]?).map (·.type)=some t)(ht:P.underlying t=some (.array n e))(he:P.underlying e=some (.int k))(hce:P.cellsOf e=1)(hct:P.cellsOf t=n):
    ∀{l:List (String×DataW Unit)} {ps:List MemPlace},DataW.LaidVars P W l ps->(name,Lib.tabData k zs)∈l->Lib.TabIs P W name k zs
  |[],_,_,h=>by cases h
  |(nm,d)::l,ps,h,hm=>by
    obtain⟨g',t',cs,fuel,p,q,hg',ht',hvar,hd,hr,_⟩:=h;rcases ct.1 hm with hm|hm
    · obtain⟨rfl,rfl⟩:=IE hm
      obtain rfl:=iJ (hg.symm.trans hg')
      obtain rfl:=iJ (hty.symm.trans ht')
      unfold Lib.TabIs
      rw[hvar,<-Lib.cells_of_tab ht he hce hct hd]
    · exact ag3 hg hty ht he hce hct hr hm
end M
set_option linter.unusedVariables false
set_option linter.unusedSimpArgs false
namespace M
open Go
def lv:Ex×ah->cG
  |(.normal,_)=>none
  |(.ret,s)=>some (.ret,s)
  |(.exit i,s)=>some (.exit i,s)
def oV{β γ:Type}(go:β->γ->γ ⊕ (Ex×ah)):List β->γ->γ ⊕ (Ex×ah)
  |[],g=>.inl g
  |b::l,g=>match go b g with
    |.inl g'=>oV go l g'
    |.inr o=>.inr o
def Lr{xt:Nat}{β γ:Type}{f:ah->cG}(l:List β)(st:Nat->γ->ah)(go:β->γ->γ ⊕ (Ex×ah))(E:γ->ah)(Inv:Nat->γ->Prop)(g:γ)(h0:Inv 0 g)
    (h:∀i b g,l[i]?=some b->i<l.length->Inv i g->f (st i g)=(match go b g with|.inl g'=>some (.normal,st (i+1) g')|.inr o=>lv o))
    (hI:∀i b g g',l[i]?=some b->Inv i g->go b g=.inl g'->Inv (i+1) g')
    (hend:∀g,Inv l.length g->f (st l.length g)=some (.exit xt,E g)):
    aJ f (st 0 g)=match oV go l g with|.inl g'=>some (.exit xt,E g')|.inr o=>lv o:=by
  suffices H:∀(r:List β) (i:Nat) (g:γ),Inv i g->l.drop i=r->i<=l.length->aJ f (st i g)=match oV go r g with|.inl g'=>some (.exit xt,E g')|.inr o=>lv o from H l 0 g h0 rfl (q7 _)
  intro r;induction r with
  |nil=>
    intro i g hi hr hl;have:i=l.length:=by have:=dA List.length hr;simp at this;omega
    subst this;rw[dS,hend g hi];rfl
  |cons b r ih=>
    intro i g hi hr hl
    have hlt:i<l.length:=by
      rcases gB i l.length with h|h;· exact h
      · rw[NZ h] at hr;cases hr
    have hb:l[i]?=some b:=by have:=rj hlt;rw[hr] at this;rw[cj hlt];cases this;rfl
    have hr':l.drop (i+1)=r:=by have:=rj hlt;rw[hr] at this;cases this;rfl
    rw[dS,h i b g hb hlt hi];unfold oV;cases hg:go b g with
    |inl g'=>exact ih (i+1) g' (hI i b g g' hb hi hg) hr' hlt
    |inr o=>obtain⟨e,s⟩:=o;cases e<;>simp[fG,lv]
def bu{α:Type}(p:α->Bool)(l:List α):Bool:=l.all p
def ff{α:Type}{p:α->Bool}{l:List α}:bu p l=true↔∀x∈l,p x=true:=pI
def gJ{xt:Nat}{β:Type}{f:ah->cG}(l:List β)(st:Nat->ah)(p:β->Bool)(R E:ah)
    (h:∀i b,l[i]?=some b->i<l.length->f (st i)=if p b=true then some (.normal,st (i+1)) else some (.ret,R))
    (hend:f (st l.length)=some (.exit xt,E)):
    aJ f (st 0)=if bu p l=true then some (.exit xt,E) else some (.ret,R):=by
  show _=if l.all p=true then _ else _
  have H:=Lr (f:=f) l (λi (_:Unit)=>st i) (λb _=>if p b=true then .inl () else .inr (.ret,R)) (λ_=>E) (λ_ _=>True) () trivial
    (λi b g hb hl _=>by rw[h i b hb hl];by_cases hp:p b=true<;>simp[hp,lv]) (λ_ _ _ _ _ _ _=>trivial) λ_ _=>hend
  refine H.trans ?_
  have:∀r:List β,oV (λb (_:Unit)=>if p b=true then .inl () else .inr (Ex.ret,R)) r ()=if r.all p=true then .inl () else .inr (.ret,R):=by
    intro r;induction r with
    |nil=>rfl
    |cons b r ih=>
      simp only[oV];by_cases hp:p b=true;· simp[hp,ih]
      · simp[hp]
  rw[this];by_cases hp:l.all p=true<;>simp[hp,lv]
def F4{xt:Nat}{β γ:Type}{f:ah->cG}(l:List β)(st:Nat->γ->ah)(go:γ->β->γ)(E:γ->ah)(Inv:Nat->γ->Prop)(g:γ)(h0:Inv 0 g)
    (h:∀i b g,l[i]?=some b->i<l.length->Inv i g->f (st i g)=some (.normal,st (i+1) (go g b)))
    (hI:∀i b g,l[i]?=some b->Inv i g->Inv (i+1) (go g b))
    (hend:∀g,Inv l.length g->f (st l.length g)=some (.exit xt,E g)):
    aJ f (st 0 g)=some (.exit xt,E (l.foldl go g)):=by
  refine(Lr (f:=f) l st (λb g=>.inl (go g b)) E Inv g h0 h (λi b g g' hb hi e=>by cases e;exact hI i b g hb hi) hend).trans ?_
  have:∀(r:List β) (g:γ),oV (λb g=>.inl (go g b)) r g=(.inl (r.foldl go g):γ ⊕ (Ex×ah)):=by
    intro r;induction r with
    |nil=>intro g;rfl
    |cons b r ih=>intro g;simp only[oV,pJ];exact ih _
  rw[this]
def Sg{xt:Nat}{β:Type}{f:ah->cG}(l:List β)(st:Nat->ah)(E:ah)
    (h:∀i b,l[i]?=some b->i<l.length->f (st i)=some (.normal,st (i+1)))
    (hend:f (st l.length)=some (.exit xt,E)):aJ f (st 0)=some (.exit xt,E):=
  F4 l (λi (_:Unit)=>st i) (λ_ _=>()) (λ_=>E) (λ_ _=>True) () trivial (λi b _ hb hl _=>h i b hb hl) (λ_ _ _ _ _=>trivial) λ_ _=>hend
def cy{n:Int}(h1:-9223372036854775808<=n)(h2:n<=9223372036854775807):IntKind.i64.wrap n=n:=by simp only[IntKind.wrap,IntKind.signed,IntKind.bits,NU,aZ];split<;>rename_i h<;>simp at h<;>omega
def bx(n:Nat)(h:n<9223372036854775807):IntKind.i64.wrap (↑n+1)=↑n+1:=cy (by omega) (by omega)
attribute [simp] base HY iq look cK cH cJ Ej Gb B8 kV iH
abbrev ag:=List UInt8
@[simp] def anO(s:ag):ByteArray.size ⟨s.toArray⟩=s.length:=by simp[ByteArray.size]
@[simp] def str_inj(s t:ag):((⟨s.toArray⟩:ByteArray)=⟨t.toArray⟩)↔s=t:=by
  constructor
  · intro h
    injection h with h
    simpa using dA Array.toList h
  · rintro rfl;rfl
def jS(s t:ag):(⟨s.toArray⟩:ByteArray)++⟨t.toArray⟩=⟨(s++t).toArray⟩:=by apply ByteArray.ext;rw[ByteArray.data_append];simp
@[simp] def eS(s:ag):List X:=[.str ⟨s.toArray⟩]
structure Wr where
  at_:Int
  text:ag
  deriving DecidableEq
structure bD where
  cells:List ag
  pending:List Wr
  deriving DecidableEq
@[simp] def eW(w:Wr):List X:=[.int .i64 w.at_,.str ⟨w.text.toArray⟩]
@[simp] def cV(m:Md)(d:bD):List X:=[.row m 1 (d.cells.map eS),.row m 2 (d.pending.map eW)]
@[simp] def anm(m:Md)(l:List ag):X.cv m (l.map eS)=l.map eS:=by induction l<;>simp_all[X.cv,X.ey,X.md]
@[simp] def anq(m:Md)(l:List Wr):X.cv m (l.map eW)=l.map eW:=by induction l<;>simp_all[X.cv,X.ey,X.md]
@[simp] def Yj(l:List ag):X.clean.bz (l.map eS)=true:=by induction l<;>simp_all[X.clean.bz,X.clean.cL,X.clean]
@[simp] def Yk(l:List Wr):X.clean.bz (l.map eW)=true:=by induction l<;>simp_all[X.clean.bz,X.clean.cL,X.clean]
def aer{α β:Type}(l:List α)(e:α->β)(z:β)(g:β->β){i:Nat}(hi:i<l.length)(hg:g z=e l[i]):
    ((l.take i).map e++List.replicate (l.length - i) z).modify i g=(l.take (i+1)).map e++List.replicate (l.length - (i+1)) z:=by
  apply iw;intro j;rw[vJ];rcases Nat.lt_trichotomy j i with h|h|h
  · rw[mT (by simp;omega),mT (by simp;omega)]
    simp only[de,List.getElem?_take,aA h,aA (Nat.lt_succ_of_lt h),aC (Nat.ne_of_gt h)]
    cases l[j]?<;>rfl
  · subst h
    rw[jb (by simp;omega),mT (by simp;omega)]
    have:j - ((l.take j).map e).length=0:=by simp;omega
    rw[this,UP (by omega)]
    simp only[de,List.getElem?_take,aA (Nat.lt_succ_self j),cj hi,dB,cx,<-hg]
    rfl
  · rw[jb (by simp;omega),jb (by simp;omega)]
    have h1:j - ((l.take i).map e).length=j - i:=by simp;omega
    have h2:j - ((l.take (i+1)).map e).length=j - (i+1):=by simp;omega
    rw[h1,h2,N3,N3]
    by_cases h3:j<l.length
    · rw[aA (by omega),aA (by omega)]
      simp only[Nat.ne_of_lt h,eL]
      rfl
    · rw[aC (by omega),aC (by omega)]
      rfl
def lz(rows:List (List X))(i:Nat)(z:List X):List (List X):=rows.take i++List.replicate (rows.length - i) z
@[simp] def amf(rows:List (List X))(i:Nat)(z:List X):(lz rows i z).length=rows.length:=by simp[lz];omega
@[simp] def Y2(rows:List (List X))(i:Nat)(z:List X)(h:i<rows.length):(lz rows i z)[i]?=some z:=by unfold lz;rw[jb (by simp;omega),UP (by simp;omega)]
@[simp] def ame(rows:List (List X))(i:Nat)(z:List X)(h:i<(lz rows i z).length):(lz rows i z)[i]=z:=by
  have h':i<rows.length:=by simpa using h
  have:=Y2 rows i z h';rw[cj h] at this;exact iJ this
@[simp] def amh(rows:List (List X))(z:List X):lz rows 0 z=List.replicate rows.length z:=by simp[lz]
@[simp] def amd(rows:List (List X))(i:Nat)(z:List X)(h:i=rows.length):lz rows i z=rows:=by subst h;simp[lz]
@[simp] def amg(rows:List (List X))(i:Nat)(z:List X)(g:List X->List X)(h:i<rows.length)(hg:g z=rows[i]):(lz rows i z).modify i g=lz rows (i+1) z:=by have:=aer rows id z g h (by simpa using hg);simpa [lz] using this
def UW{α β:Type}:∀{a:List α} {b:List β},a.length=b.length->∃ps:List (α×β),a=ps.map Prod.fst/\b=ps.map Prod.snd
  |[],[],_=>⟨[],rfl,rfl⟩
  |x::a,y::b,h=>by obtain⟨ps,h1,h2⟩:=UW (a:=a) (b:=b) (by simpa using h);exact⟨(x,y)::ps,by simp[<-h1],by simp[<-h2]⟩
  |[],_::_,h=>by cases h
  |_::_,[],h=>by cases h
def wm{α:Type}[DecidableEq α](x:α×α):Bool:=decide (x.1=x.2)
def Ow{α:Type}[DecidableEq α]:∀ps:List (α×α),bu wm ps=decide (ps.map Prod.fst=ps.map Prod.snd)
  |[]=>rfl
  |x::ps=>by have:=Ow ps;unfold bu at this⊢;simp only[List.all_cons,this,wm,bg,oc];exact(Bool.decide_and ..).symm
def ad3{xt:Nat}{β:Type}{f:ah->cG}(l:List β)(st:Int->ah)(p:β->Bool)(R:β->ah)(E:ah)
    (h:∀(i:Nat) b,l[i]?=some b->i<l.length->f (st i)=if p b=true then some (.ret,R b) else some (.normal,st (i - 1)))
    (hend:f (st (-1))=some (.exit xt,E)):
    aJ f (st (l.length - 1))=(l.reverse.find? p).elim (some (.exit xt,E)) (λb=>some (.ret,R b)):=by
  suffices H:∀k,k<=l.length->aJ f (st ((k:Int) - 1))=((l.take k).reverse.find? p).elim (some (.exit xt,E)) (λb=>some (.ret,R b)) by have:=H l.length (dF _);rwa [vF] at this
  intro k;induction k with
  |zero=>intro _;rw[dS];simp[hend]
  |succ k ih=>
    intro hk;have hb:l[k]?=some l[k]:=cj hk;have e:((k+1:Nat):Int) - 1=(k:Int):=by omega
    rw[e,dS,h k _ hb hk,List.take_add_one,hb];simp only[Option.toList_some,Iy,NJ,List.reverse_nil,jz,UF,List.find?_cons];by_cases hp:p l[k]=true;· simp[hp]
    · simp only[hp,fJ,eL,ag9]
      exact ih (by omega)
def ek(d:bD)(a:Int):ag:=d.pending.foldl (λout w=>if w.at_=a then w.text else out) (d.cells.getD a.toNat [])
def QC(a:Int):∀(l:List Wr) (x:ag),l.foldl (λout w=>if w.at_=a then w.text else out) x=(l.reverse.find? (λw=>decide (w.at_=a))).elim x Wr.text
  |[],x=>rfl
  |w::l,x=>by
    rw[pJ,QC a l,NJ,List.find?_append];cases l.reverse.find? (λw=>decide (w.at_=a)) with
    |some v=>rfl
    |none=>by_cases h:w.at_=a<;>simp[h]
def oz(new old:List (List X))(i:Nat):List (List X):=new.take i++old.drop i
@[simp] def Qf(new old:List (List X))(i:Nat)(h:new.length=old.length):(oz new old i).length=old.length:=by simp[oz];omega
@[simp] def Y1(new old:List (List X))(i:Nat)(h:new.length=old.length)(hi:i<old.length):(oz new old i)[i]?=old[i]?:=by unfold oz;rw[jb (by simp;omega),pK];congr 1;simp;omega
@[simp] def amb(new old:List (List X))(i:Nat)(hl:i<(oz new old i).length)(h:new.length=old.length):(oz new old i)[i]=old[i]'(by rw[Qf _ _ _ h] at hl;exact hl):=by
  have hi:i<old.length:=by rw[Qf _ _ _ h] at hl;exact hl
  have:=Y1 new old i h hi;rw[cj hl,cj hi] at this;exact iJ this
@[simp] def amc(new old:List (List X)):oz new old 0=old:=by simp[oz]
@[simp] def ama(new old:List (List X))(i:Nat)(h:new.length=old.length)(hi:i=old.length):oz new old i=new:=by subst hi;rw[<-h];simp[oz];omega
def qy(n:Nat)(out:ag):ag:=if h:n=0 then out else qy (n / 10) (UInt8.ofNat (48+n%10)::out)
termination_by n
decreasing_by omega
def BJ(k:Int):ag:=if k<=0 then [109,48] else 109::qy k.toNat []
def BK(n:Nat)(k:Int):List ag:=(List.range n).map λ(i:Nat)=>BJ (k+i)
def BL(n:Nat)(k:Int):List Wr:=(List.range n).map λ(i:Nat)=>⟨k+2*i,BJ (k+2*i+1)⟩
@[simp] def am7(n:Nat)(k:Int):(BK n k).length=n:=by simp[BK]
@[simp] def am9(n:Nat)(k:Int):(BL n k).length=n:=by simp[BL]
@[simp] def am6(n:Nat)(k:Int)(i:Nat)(h:i<(BK n k).length):(BK n k)[i]=BJ (k+i):=by simp[BK]
@[simp] def am8(n:Nat)(k:Int)(i:Nat)(h:i<(BL n k).length):(BL n k)[i]=⟨k+2*i,BJ (k+2*i+1)⟩:=by simp[BL]
def foldI{β γ:Type}(go:Nat->γ->β->γ):Nat->List β->γ->γ
  |_,[],g=>g
  |i,b::l,g=>foldI go (i+1) l (go i g b)
def kT{xt:Nat}{β γ:Type}{f:ah->cG}(l:List β)(st:Nat->γ->ah)(go:Nat->γ->β->γ)(E:γ->ah)(Inv:Nat->γ->Prop)(g:γ)(h0:Inv 0 g)
    (h:∀i b g,l[i]?=some b->i<l.length->Inv i g->f (st i g)=some (.normal,st (i+1) (go i g b)))
    (hI:∀i b g,l[i]?=some b->Inv i g->Inv (i+1) (go i g b))
    (hend:∀g,Inv l.length g->f (st l.length g)=some (.exit xt,E g)):
    aJ f (st 0 g)=some (.exit xt,E (foldI go 0 l g)):=by
  suffices H:∀(r:List β) (i:Nat) (g:γ),Inv i g->l.drop i=r->i<=l.length->aJ f (st i g)=some (.exit xt,E (foldI go i r g)) from H l 0 g h0 rfl (q7 _)
  intro r;induction r with
  |nil=>
    intro i g hi hr hl;have:i=l.length:=by have:=dA List.length hr;simp at this;omega
    subst this;rw[dS,hend g hi];rfl
  |cons b r ih=>
    intro i g hi hr hl
    have hlt:i<l.length:=by
      rcases gB i l.length with h|h;· exact h
      · rw[NZ h] at hr;cases hr
    have hd:=rj hlt;rw[hr] at hd;have hb:l[i]?=some b:=by rw[cj hlt];cases hd;rfl
    have hr':l.drop (i+1)=r:=by cases hd;rfl
    rw[dS,h i b g hb hlt hi];exact ih (i+1) _ (hI i b g hb hi) hr' hlt
def lP(k:Nat->Bool)(i:Nat)(cs:List ag)(w:Wr):List ag:=if k i=true then cs.set w.at_.toNat w.text else cs
def qu(k:Nat->Bool)(cs:List ag)(ws:List Wr):List ag:=foldI (lP k) 0 ws cs
def RZ(k:Nat->Bool)(i:Nat)(cs:List ag)(w:Wr):(lP k i cs w).length=cs.length:=by unfold lP;split<;>simp
def Qz(k:Nat->Bool):∀(ws:List Wr) (i:Nat) (cs:List ag),(foldI (lP k) i ws cs).length=cs.length
  |[],_,_=>rfl
  |w::ws,i,cs=>by rw[foldI,Qz k ws,RZ]
def RY(k:Nat->Bool)(cs:List ag)(ws:List Wr):(qu k cs ws).length=cs.length:=Qz k ws 0 cs
@[simp] def anr(cs:List ag)(n:Nat)(t:ag):(cs.map eS).modify n (λx=>x.set 0 (X.str ⟨t.toArray⟩))=(cs.set n t).map eS:=by
  apply iw;intro j;rw[vJ,de,de,vK];by_cases h:n=j
  · subst h
    simp only[dB]
    by_cases h2:n<cs.length
    · simp[h2]
    · simp[h2,lf (Nat.le_of_not_lt h2)]
  · simp only[h,eL]
    cases cs[j]?<;>rfl
def kS(keep:List Bool)(all:Bool)(i:Nat):Bool:=all||keep.getD i false
@[simp] def eB(b:Bool):List X:=[.bool b]
@[simp] def ana(m:Md)(l:List Bool):X.cv m (l.map eB)=l.map eB:=by induction l<;>simp_all[X.cv,X.ey,X.md]
@[simp] def ak6(l:List Bool):X.clean.bz (l.map eB)=true:=by induction l<;>simp_all[X.clean.bz,X.clean.cL,X.clean]
def HM(l:List ag):fY (l.map eS)=true:=by induction l<;>simp_all[fY,scalar]
def Tz(l:List Wr):fY (l.map eW)=true:=by induction l<;>simp_all[fY,scalar]
attribute [simp] HM Tz
@[simp] def ak5(a b:List (List X)):X.clean.bz (a++b)=(X.clean.bz a && X.clean.bz b):=by
  induction a with
  |nil=>simp[X.clean.bz]
  |cons e a ih=>simp[X.clean.bz,ih,NN]
@[simp] def Sq(m:Md)(a b:List (List X)):X.cv m (a++b)=X.cv m a++X.cv m b:=by
  induction a with
  |nil=>simp[X.cv]
  |cons e a ih=>simp[X.cv,ih]
structure aY where
  code:List UInt8
  i:Nat
  h:Int
  hi:i<=code.length
  hl:code.length<=9223372036854775807
@[simp] def eU(b:UInt8):List X:=[.int .u8 (b.toNat:Int)]
@[simp] def anp(m:Md)(l:List UInt8):X.cv m (l.map eU)=l.map eU:=by induction l<;>simp_all[X.cv,X.ey,X.md]
@[simp] def alj(l:List UInt8):X.clean.bz (l.map eU)=true:=by induction l<;>simp_all[X.clean.bz,X.clean.cL,X.clean]
def aL(c:aY):List X:=[.row .sl 1 (c.code.map eU),.int .i64 c.i,.int .i64 c.h]
@[simp] def alN(c:aY):(aL c).length=3:=rfl
@[simp] def alP(c:aY):(aL c).take 3=aL c:=rfl
@[simp] def alK(c:aY):(aL c).drop 3=[]:=rfl
@[simp] def alO(ks:List Nat)(c:aY):X.nN ks (aL c)=aL c:=rfl
@[simp] def alL(r:Nat)(p:Path)(c:aY):X.gI r p (aL c)=aL c:=rfl
@[simp] def alM(r:Nat)(p:Path)(c:aY):X.qq r p (aL c)=aL c:=rfl
@[simp] def alJ(c:aY):X.clean.cL (aL c)=true:=by simp[aL,X.clean.cL,X.clean]
@[simp] def alI(c:aY):X.bare.jg (aL c)=true:=by simp[aL,X.bare.jg,X.bare]
def Oz(n:Int):IntKind.i64.wrap (((n%2^IntKind.i64.bits).toNat &&& 255%2^IntKind.i64.bits:Nat):Int)=n%256:=by
  have e:255%2^IntKind.i64.bits=2^8 - 1:=by decide
  have e2:(2:Int)^IntKind.i64.bits=18446744073709551616:=by decide
  rw[e,Nat.and_two_pow_sub_one_eq_mod,IntKind.wrap_i64,e2];omega
def ad4{xt:Nat}{γ:Type}{f:ah->cG}(n:Nat)(st:Nat->γ->ah)(Inv:Nat->γ->Prop)(E:γ->ah)(g:γ)(h0:Inv 0 g)
    (h:∀i g,i<n->Inv i g->∃g',f (st i g)=some (.normal,st (i+1) g')/\Inv (i+1) g')
    (hend:∀g,Inv n g->f (st n g)=some (.exit xt,E g)):∃g',Inv n g'/\aJ f (st 0 g)=some (.exit xt,E g'):=by
  suffices H:∀k i g,i+k=n->Inv i g->∃g',Inv n g'/\aJ f (st i g)=some (.exit xt,E g') from H n 0 g (by omega) h0
  intro k;induction k with
  |zero=>
    intro i g hi hI;obtain rfl:i=n:=by omega
    exact⟨g,hI,by rw[dS,hend g hI];rfl⟩
  |succ k ih=>intro i g hi hI;obtain⟨g1,e1,hI1⟩:=h i g (by omega) hI;obtain⟨g2,Kh,e2⟩:=ih (i+1) g1 (by omega) hI1;exact⟨g2,Kh,by rw[dS,e1];exact e2⟩
end M
set_option linter.unusedVariables false
set_option linter.unusedSimpArgs false
namespace M
open Go Go.RowKit
inductive Ty where
  |int (k:IntKind)
  |bool
  |str
  |row (ts:List Ty)
inductive jc:Ty->X->Prop
  |int {k n}:(Lit.int k n).wf=true->jc (.int k) (.int k n)
  |bool {b}:jc .bool (.bool b)
  |str {s:ByteArray}:s.size<=maxLen->jc .str (.str s)
  |row {ts xs}:xs.length<=maxLen->(∀r:List X,r∈xs->r.length=ts.length)->(∀(r:List X),r∈xs->∀(j:Nat) ty x,ts[j]?=some ty->r[j]?=some x->jc ty x)->jc (.row ts) (.row .sl ts.length xs)
structure DQ (w:World) (ty:Ty) (c:C):Prop where
  cell:c.cell
  cT:c.cT
  fits:c.fits .sl
  ok:c.ok w (Zf (λb _=>b<w.heap.size) λ_ _=>False)
  fp:∀b k,¬c.fp b k
  z8:jc ty c.er
def lC(w:World):List Ty->List Value->List C->Prop
  |[],[],[]=>True
  |ty::ts,v::vs,c::cs=>c.val=v/\DQ w ty c/\lC w ts vs cs
  |_,_,_=>False
def QU{w:World}:∀{ts:List Ty} {vs:List Value} {cs:List C} {ts':List Ty} {vs':List Value} {cs':List C},lC w ts vs cs->lC w ts' vs' cs'->lC w (ts++ts') (vs++vs') (cs++cs')
  |[],[],[],_,_,_,_,h=>h
  |_::_,_::_,_::_,_,_,_,⟨h1,h2,h3⟩,h=>⟨h1,h2,QU h3 h⟩
def QV{w:World}:∀{ts:List Ty} {vs:List Value} {cs:List C},lC w ts vs cs->vs.length=ts.length/\cs.length=ts.length/\vs=cs.map C.val
  |[],[],[],_=>⟨rfl,rfl,rfl⟩
  |_::_,_::_,_::_,⟨h1,h2,h3⟩=>by obtain⟨e1,e2,e3⟩:=QV h3;exact⟨by simp[e1],by simp[e2],by simp[h1,<-e3]⟩
def J9{w:World}:∀{ts:List Ty} {vs:List Value} {cs:List C},lC w ts vs cs->∀{j:Nat},j<ts.length->∃ty c,ts[j]?=some ty/\cs[j]?=some c/\vs[j]?=some c.val/\DQ w ty c
  |ty::ts,v::vs,c::cs,⟨h1,h2,h3⟩,0,_=>⟨ty,c,rfl,rfl,by simp[h1],h2⟩
  |ty::ts,v::vs,c::cs,⟨h1,h2,h3⟩,j+1,h=>by obtain⟨ty,c,a1,a2,a3,a4⟩:=J9 h3 (j:=j) (by simpa using h);exact⟨ty,c,by simpa using a1,by simpa using a2,by simpa using a3,a4⟩
def yP(P:Program)(r:TypeId->Option (List Ty)):Nat->List Field->Option (List Ty)
  |_,[]=>some []
  |o,f::fs=>if f.offset=o then (r f.type).bind λts=>if ts.length=P.cellsOf f.type then (yP P r (o+ts.length) fs).map (ts++·) else none else none
def jy(P:Program):Nat->Bool->TypeId->Option (List Ty)
  |0,_,_=>none
  |n+1,deep,t=>match P.underlying t with
    |some .bool=>some [.bool]
    |some (.int k)=>some [.int k]
    |some .string=>some [.str]
    |some (.slice e)=>if deep then (jy P n true e).bind λts=>if ts.length=P.cellsOf e/\0<P.cellsOf e then some [.row ts] else none else none
    |some (.struct fs)=>(yP P (jy P n deep) 0 fs.toList).bind λts=>if ts.length=P.cellsOf t then some ts else none
    |_=>none
section
variable {H:Type}{enc:TypeId×Value->H}{P:Program}{w:World}{sp:Nat->Bool}{held:Bool}
def T8{r:TypeId->Option (List Ty)}{cs:List Value}
    (hr:∀t ts fuel cs' x,r t=some ts->DataW.trod enc P w 0 sp held fuel t cs'=some x->(∀v∈cs',v∈cs)->∃Cs,lC w ts cs' Cs):
    ∀(fs:List Field) (o:Nat) (ts:List Ty),yP P r o fs=some ts->(∀f∈fs,∃fuel x,DataW.trod enc P w 0 sp held fuel f.type ((cs.drop f.offset).take (P.cellsOf f.type))=some x)->
      ∃Cs,lC w ts ((cs.drop o).take ts.length) Cs
  |[],o,ts,h,_=>by cases h;exact⟨[],by simp[lC]⟩
  |f::fs,o,ts,h,hx=>by
    simp only[yP] at h;split at h
    · rename_i ho
      simp only[ld] at h
      obtain⟨t1,h1,h⟩:=h
      split at h
      · rename_i hl
        simp only[mR] at h
        obtain⟨t2,h2,rfl⟩:=h
        obtain⟨fuel,x,hf⟩:=hx f (bE ..)
        obtain⟨C1,g1⟩:=hr _ _ _ _ _ h1 hf λv hv=>List.mem_of_mem_drop (ND hv)
        obtain⟨C2,g2⟩:=T8 hr fs _ _ h2 λf hf=>hx f (cE _ hf)
        refine⟨C1++C2,?_⟩
        rw[fK,List.take_add,DK]
        rw[ho,<-hl] at g1
        exact QU g1 g2
      · cases h
    · cases h
def agT{w:World}{g o n m:Nat}{spot:Option Nat}{vs:List Value}(hn:0<n)(h:w.cells? 0 ((⟨g,o,spot⟩:Addr).add (0*m)) n=some vs):spot=none:=by
  obtain⟨_,hl,e3⟩:=World.cells?_some h;have e4:=e3 0 hn;have:∃v,vs[0]?=some v:=⟨vs[0],cj (by omega)⟩;obtain⟨v,hv⟩:=this;rw[hv] at e4;have ha:((⟨g,o,spot⟩:Addr).add (0*m)).add 0=⟨g,o,spot⟩:=by simp[Addr.add]
  rw[ha] at e4;unfold World.cell? at e4;cases spot with
  |none=>rfl
  |some k=>
    split at e4;· simp at e4
    · cases e4
def trod_good:∀(n:Nat) (deep:Bool) (t:TypeId) (ts:List Ty),jy P n deep t=some ts->∀(fuel:Nat) (cs:List Value) (x:DataW H×List MemPlace),DataW.trod enc P w 0 sp held fuel t cs=some x->∃Cs,lC w ts cs Cs
  |0,_,_,_,h,_,_,_,_=>by cases h
  |n+1,deep,t,ts,h,fuel,cs,x,hx=>by
    simp only[jy] at h;split at h
    · rename_i hu
      cases h
      obtain⟨b,rfl,rfl⟩:=DataW.trod_bool hu hx
      exact⟨[.bool b],rfl,⟨trivial,trivial,trivial,trivial,λ_ _ h=>h,.bool⟩,trivial⟩
    · rename_i k hu
      cases h
      obtain⟨m,rfl,rfl,hw⟩:=DataW.trod_int hu hx
      exact⟨[.int k m],rfl,⟨trivial,trivial,trivial,trivial,λ_ _ h=>h,.int hw⟩,trivial⟩
    · rename_i hu
      cases h
      obtain⟨s,rfl,rfl,hw⟩:=DataW.trod_string hu hx
      exact⟨[.str s],rfl,⟨trivial,trivial,trivial,hw,λ_ _ h=>h,.str hw⟩,trivial⟩
    · rename_i e hu
      split at h
      · rename_i hd
        simp only[ld] at h
        obtain⟨te,h1,h⟩:=h
        split at h
        · rename_i hl
          obtain⟨hl,hpos⟩:=hl
          cases h
          rcases DataW.trod_slice hu hx with ⟨rfl,rfl⟩|⟨a,len,cap,elems,rest,m,rfl,rfl,rfl,_,hlc,hcm,hel,jk,_,_⟩
          · refine⟨[.row .sl te.length none 0 0 λ_ _=>.dead undef],rfl,⟨trivial,trivial,.inr (.inl rfl),⟨dF _,λi j hi=>by omega,λi j hi=>by omega,λh=>(by cases h),λi j hi=>by omega⟩,λb k h=>(by cases h.1),?_⟩,trivial⟩
            exact jc.row (xs:=[]) (by simp) (λr hr=>by cases hr) (λr hr=>by cases hr)
          · obtain⟨g,o,spot⟩:=a
            by_cases hl0:len=0
            · subst hl0
              refine⟨[.row .sl te.length (some (g,o,spot)) 0 cap λ_ _=>.dead undef],rfl,⟨trivial,trivial,.inr (.inl rfl),⟨hlc,λi j hi=>by omega,λi j hi=>by omega,λh=>(by cases h),λi j hi=>by omega⟩,λb k h=>(by cases h.1),?_⟩,trivial⟩
              exact jc.row (xs:=[]) (by simp) (λr hr=>by cases hr) (λr hr=>by cases hr)
            have adg:spot=none:=by have:=jk 0 (by omega);rw[cj (by omega),ld] at this;obtain⟨vs,e1,e2⟩:=this;exact agT hpos e1
            subst adg
            have hex:∀i,∃(vs:List Value) (l:List C),i<len->w.cells? 0 ((⟨g,o,none⟩:Addr).add (i*P.cellsOf e)) (P.cellsOf e)=some vs/\lC w te vs l:=λi=>by
              by_cases hi:i<len
              · have:=jk i hi
                rw[cj (by omega),ld] at this
                obtain⟨vs,e1,e2⟩:=this
                obtain⟨l,hl⟩:=trod_good n true _ _ h1 _ _ _ e2
                exact⟨vs,l,λ_=>⟨e1,hl⟩⟩
              · exact⟨[],[],λh=>(hi h).elim⟩
            let vs:=λi=>(hex i).choose
            let l:=λi=>(hex i).choose_spec.choose
            have hvl:∀i,i<len->w.cells? 0 ((⟨g,o,none⟩:Addr).add (i*P.cellsOf e)) (P.cellsOf e)=some (vs i)/\lC w te (vs i) (l i):=λi=>(hex i).choose_spec.choose_spec
            have hij:∀i j,i<len->j<te.length->∃ty,te[j]?=some ty/\(l i)[j]?=some ((l i).getD j (.dead undef))/\w.cell? ⟨g,o+i*te.length+j,none⟩=some ((l i).getD j (.dead undef)).val/\DQ w ty ((l i).getD j (.dead undef)):=λi j hi hj=>by
              obtain⟨e1,e2⟩:=hvl i hi;obtain⟨ty,c,a1,a2,a3,a4⟩:=J9 e2 hj;have hc:(l i).getD j (.dead undef)=c:=by rw[jX,a2];rfl
              rw[hc];obtain⟨_,_,e3⟩:=World.cells?_some e1;have e4:=e3 j (by omega);rw[a3] at e4;refine⟨ty,a1,a2,?_,a4⟩;rw[<-e4];congr 1;rw[hl];unfold Addr.add;split<;>split<;>simp_all
            have hb:∀i j,i<len->j<te.length->g<w.heap.size:=λi j hi hj=>by obtain⟨_,_,_,h3,_⟩:=hij i j hi hj;exact World.block_lt_of_cell? w _ h3
            refine⟨[.row .sl te.length (some (g,o,none)) len cap λi j=>(l i).getD j (.dead undef)],rfl,⟨trivial,trivial,.inr (.inl rfl),⟨hlc,λi j hi hj=>⟨g,o,rfl,?_,λ_=>hb i j hi hj⟩,λi j hi hj=>?_,λh=>(by cases h),λi j hi hj b k hf=>?_⟩,λb k h=>(by cases h.1),?_⟩,trivial⟩
            · obtain⟨ty,_,_,h3,h4⟩:=hij i j hi hj
              exact h3
            · obtain⟨ty,_,_,h3,h4⟩:=hij i j hi hj
              exact⟨h4.cell,h4.cT,h4.fits,h4.ok⟩
            · obtain⟨ty,_,_,h3,h4⟩:=hij i j hi hj
              exact(h4.fp b k hf).elim
            · refine jc.row (by simpa using iZ hlc hcm) (λr hr=>?_) λr hr j ty x hty KM=>?_
              · simp only[aT,nX] at hr
                obtain⟨i,_,rfl⟩:=hr
                simp
              · simp only[aT,nX] at hr
                obtain⟨i,hi,rfl⟩:=hr
                have hj:j<te.length:=by
                  rcases gB j te.length with h|h;· exact h
                  · rw[lf h] at hty;cases hty
                obtain⟨ty',e1,_,_,h4⟩:=hij i j hi hj
                rw[e1] at hty
                cases hty
                rw[de,rq hj] at KM
                simp only[cx,dL] at KM
                subst KM
                exact h4.z8
        · cases h
      · cases h
    · rename_i fs hu
      simp only[ld] at h
      obtain⟨te,h1,h⟩:=h
      split at h
      · rename_i hl
        cases h
        obtain⟨xs,m,rfl,rfl,hcs,hxl,jk⟩:=DataW.trod_struct hu hx
        obtain⟨Cs,hC⟩:=T8 (cs:=cs) (λt ts' fuel cs' x hr ht hm=>trod_good n deep t ts' hr fuel cs' x ht) fs.toList 0 ts h1 λf hf=>by
          obtain⟨i,hi,rfl⟩:=pL hf;have hi':i<fs.size:=by simpa using hi
          have:=jk i (fs[i]) (by simp[hi']);rw[cj (by omega)] at this;exact⟨_,_,by simpa using this⟩
        refine⟨Cs,?_⟩
        rw[IP,hl,<-hcs,vF] at hC
        exact hC
      · cases h
    · cases h
def Ni:∀(n:Nat) (deep:Bool) (t:TypeId) (ts:List Ty),jy P n deep t=some ts->∀(fuel:Nat) (cs:List Value) (x:DataW H×List MemPlace),DataW.trod enc P w 0 (λ_=>true) held fuel t cs=some x->DataW.trod enc P w 0 (λb=>decide (b<w.heap.size)) held fuel t cs=some x
  |0,_,_,_,h,_,_,_,_=>by cases h
  |n+1,deep,t,ts,h,0,cs,x,hx=>by simp[DataW.trod] at hx
  |n+1,deep,t,ts,h,fuel+1,cs,x,hx=>by
    simp only[jy] at h;split at h
    · rename_i hu
      obtain⟨b,rfl,rfl⟩:=DataW.trod_bool hu hx
      simp[DataW.trod,hu]
    · rename_i k hu
      obtain⟨m,rfl,rfl,hw⟩:=DataW.trod_int hu hx
      simp[DataW.trod,hu,hw]
    · rename_i hu
      obtain⟨s,rfl,rfl,hw⟩:=DataW.trod_string hu hx
      simp[DataW.trod,hu,hw]
    · rename_i e hu
      split at h
      · simp only[ld] at h
        obtain⟨te,h1,h⟩:=h
        split at h
        · rename_i hl
          obtain⟨hl,hpos⟩:=hl
          rcases DataW.trod_slice hu hx with ⟨rfl,rfl⟩|⟨a,len,cap,elems',rest',m,_,rfl,_⟩
          · simp[DataW.trod,hu]
          · unfold DataW.trod at hx⊢
            simp only[hu] at hx⊢
            split at hx
            · rename_i hc
              rw[aA hc]
              simp only[mR,ld,dB] at hx⊢
              obtain⟨elems,he,rest,uk,rfl⟩:=hx
              have one:∀(i:Nat) (y:DataW H×List MemPlace),(w.cells? 0 (a.add (i*P.cellsOf e)) (P.cellsOf e)).bind (DataW.trod enc P w 0 (λ_=>true) held fuel e)=some y->(w.cells? 0 (a.add (i*P.cellsOf e)) (P.cellsOf e)).bind (DataW.trod enc P w 0 (λb=>decide (b<w.heap.size)) held fuel e)=some y:=λi y hv=>by simp only[ld] at hv⊢;obtain⟨cs',kg,hy'⟩:=hv;exact⟨cs',kg,Ni n true _ _ h1 _ _ _ hy'⟩
              refine⟨elems,mapM_carry he λi y _ _ hv=>one i y hv,rest,?_,rfl⟩
              by_cases hb:a.block<w.heap.size
              · rw[aA (by simpa using hb)]
                exact mapM_carry uk λi y _ _ hv=>one (len+i) y hv
              · rw[aC (by simpa using hb)]
                have:cap - len=0:=by
                  rcases Nat.eq_zero_or_pos (cap - len) with h|h;· exact h
                  · have h0:=mapM_some_get uk 0 0 (by simp[h])
                    have hl':0<rest.length:=by have:=mapM_some_length uk;simp at this;omega
                    rw[cj hl',ld] at h0
                    obtain⟨vs,e1,_⟩:=h0
                    have:=World.cells?_block e1 hpos
                    refine(hb ?_).elim
                    unfold Addr.add at this
                    split at this<;>exact this
                rw[this] at uk
                exact uk
            · cases hx
        · cases h
      · cases h
    · rename_i fs hu
      simp only[ld] at h
      obtain⟨te,h1,h⟩:=h
      unfold DataW.trod at hx⊢
      simp only[hu] at hx⊢
      have each:∀(o:Nat) (l:List Field) (ts:List Ty),yP P (jy P n deep) o l=some ts->∀f∈l,∃t1,jy P n deep f.type=some t1:=by
        intro o l;induction l generalizing o with
        |nil=>intro _ _ f hf;cases hf
        |cons f l ih=>
          intro ts h f' hf';simp only[yP] at h;split at h
          · simp only[ld] at h
            obtain⟨t1,e1,h⟩:=h
            split at h
            · simp only[mR] at h
              obtain⟨t2,e2,_⟩:=h
              rcases ct.1 hf' with rfl|hf'
              · exact⟨t1,e1⟩
              · exact ih _ _ e2 f' hf'
            · cases h
          · cases h
      split at hx
      · rename_i hc
        rw[aA hc]
        simp only[mR] at hx⊢
        obtain⟨xs,hx,rfl⟩:=hx
        refine⟨xs,mapM_carry hx λf y hf _ hv=>?_,rfl⟩
        obtain⟨t1,e1⟩:=each _ _ _ h1 f hf
        exact Ni n deep _ _ e1 _ _ _ hv
      · cases hx
    · cases h
inductive mV where
  |one (ty:Ty)
  |agg (tys:List Ty)
inductive tK:mV->X->Prop
  |one {ty x}:jc ty x->tK (.one ty) x
  |agg {tys:List Ty} {l:List X}:l.length=tys.length->(∀(j:Nat) ty x,tys[j]?=some ty->l[j]?=some x->jc ty x)->tK (.agg tys) (.agg l)
def tP(P:Program)(t:TypeId):Option mV:=match P.underlying t with
  |some (.struct _)=>(jy P 20 true t).map .agg
  |some .bool=>some (.one .bool)
  |some (.int k)=>some (.one (.int k))
  |some .string=>some (.one .str)
  |some (.slice _)=>(jy P 20 true t).bind fun
    |[ty]=>some (.one ty)
    |_=>none
  |_=>none
def OG{c:C}(h1:c.cell)(h2:c.cT):c.bare:=by cases c<;>first|trivial|exact h2.elim
structure Oj (w:World) (a:mV) (v:Value) (c:C):Prop where
  val:c.val=v
  ok:c.ok w (Zf (λb _=>b<w.heap.size) λ_ _=>False)
  bare:c.bare
  fp:∀b k,¬c.fp b k
  z8:tK a c.er
def EU{ty:Ty}{cs:List Value}{Cs:List C}{v:Value}(h:lC w [ty] cs Cs)(e:cs=[v]):∃c,Oj w (.one ty) v c:=by
  subst e;match Cs,h with
  |[c],⟨h1,h2,_⟩=>exact⟨c,h1,h2.ok,OG h2.cell h2.cT,h2.fp,.one h2.z8⟩
def Wu{r:Reach}{base:Nat}{t:TypeId}{v:Value}{d:DataW H}{p:List MemPlace}{a:mV}(ha:tP P t=some a)(hv:Value.okWide P w r base t v)(hd:DataW.Trod enc P w 0 sp held t v d p):∃c,Oj w a v c:=by
  obtain⟨fuel,hf⟩:=hd;unfold tP at ha;split at ha
  · rename_i fs hu
    simp only[mR] at ha
    obtain⟨ts,ht,rfl⟩:=ha
    unfold Value.okWide at hv
    rw[hu] at hv
    obtain⟨cs,rfl,_,ts',_,_,hcell⟩:=hv
    obtain⟨Cs,hC⟩:=trod_good _ _ _ _ ht _ _ _ hf
    obtain⟨l1,l2,l3⟩:=QV hC
    have jk:∀j,j<Cs.length->∃ty,ts[j]?=some ty/\DQ w ty (Cs.getD j (.dead undef)):=λj hj=>by obtain⟨ty,c,a1,a2,a3,a4⟩:=J9 hC (j:=j) (by omega);exact⟨ty,a1,by rw[jX,a2];exact a4⟩
    refine⟨.agg Cs.length λj=>Cs.getD j (.dead undef),?_,⟨λj hj=>?_,λj hj b k hf=>?_⟩,λj hj=>?_,λb k ⟨j,hj,hf⟩=>?_,?_⟩
    · show Value.agg _=_
      congr 1
      apply pq
      show (List.range Cs.length).map (λj=>(Cs.getD j (.dead undef)).val)=cs.toList
      have:(Value.agg cs).cells.toList=cs.toList:=rfl
      rw[<-this,l3]
      letI:Bs:=⟨w⟩
      exact mE Cs _ C.val
    · obtain⟨_,_,h⟩:=jk j hj;exact⟨h.cell,h.ok⟩
    · obtain⟨_,_,h⟩:=jk j hj;exact(h.fp b k hf).elim
    · obtain⟨_,_,h⟩:=jk j hj;exact OG h.cell h.cT
    · obtain⟨_,_,h⟩:=jk j hj;exact h.fp b k hf
    · refine tK.agg (by simpa using l2) λj ty x hty hx=>?_
      have hj:j<Cs.length:=by
        rcases gB j Cs.length with h|h;· exact h
        · rw[lf (by simpa using h)] at hx;cases hx
      obtain⟨ty',e1,h⟩:=jk j hj
      rw[e1] at hty
      cases hty
      rw[de,rq hj] at hx
      simp only[cx,dL] at hx
      subst hx
      exact h.z8
  · rename_i hu
    cases ha
    obtain⟨Cs,hC⟩:=trod_good 1 true t [.bool] (by simp[jy,hu]) _ _ _ hf
    obtain⟨b,hb,_⟩:=DataW.trod_bool hu hf
    exact EU hC (v:=v) (by unfold Value.okWide at hv;rw[hu] at hv;unfold Cell.okWide at hv;rw[hu] at hv;unfold Cell.ok at hv;rw[hu] at hv;cases v<;>first|rfl|(simp at hv;done))
  · rename_i k hu
    cases ha
    obtain⟨m,hb,_⟩:=DataW.trod_int hu hf
    obtain⟨Cs,hC⟩:=trod_good 1 true t [.int k] (by simp[jy,hu]) _ _ _ hf
    exact EU hC (v:=v) (by unfold Value.okWide at hv;rw[hu] at hv;unfold Cell.okWide at hv;rw[hu] at hv;unfold Cell.ok at hv;rw[hu] at hv;cases v<;>first|rfl|(simp at hv;done))
  · rename_i hu
    cases ha
    obtain⟨m,hb,_⟩:=DataW.trod_string hu hf
    obtain⟨Cs,hC⟩:=trod_good 1 true t [.str] (by simp[jy,hu]) _ _ _ hf
    exact EU hC (v:=v) (by unfold Value.okWide at hv;rw[hu] at hv;unfold Cell.okWide at hv;rw[hu] at hv;unfold Cell.ok at hv;rw[hu] at hv;cases v<;>first|rfl|(simp at hv;done))
  · rename_i e hu
    simp only[ld] at ha
    obtain⟨ts,ht,ha⟩:=ha
    split at ha
    · rename_i ty
      cases ha
      have hc:Cell.okWide P w r base t v:=by unfold Value.okWide at hv;rw[hu] at hv;exact hv
      have hv1:v.cells.toList=[v]:=by unfold Cell.okWide at hc;rw[hu] at hc;unfold Cell.ok at hc;rw[hu] at hc;cases v<;>first|rfl|(simp at hc;done)
      obtain⟨Cs,hC⟩:=trod_good _ _ _ _ ht _ _ _ hf
      exact EU hC hv1
    · cases ha
  · cases ha
def vL:List mV->List X->Prop
  |[],[]=>True
  |a::as,x::xs=>tK a x/\vL as xs
  |_,_=>False
def OA{r:Reach}{base:Nat}:∀{ts:List TypeId} {as:List mV} {vs:List Value} {ds:List (DataW H)} {p:List MemPlace},ts.map (tP P)=as.map some->
    (∀(j:Nat) t v,ts[j]?=some t->vs[j]?=some v->Value.okWide P w r base t v)->DataW.TrodAll enc P w 0 sp held ts vs ds p->
    ∃cs:List C,cs.map C.val=vs/\(∀c∈cs,c.ok w (Zf (λb _=>b<w.heap.size) λ_ _=>False)/\c.bare/\∀b k,¬c.fp b k)/\vL as (cs.map C.er)
  |[],[],[],[],_,_,_,_=>⟨[],rfl,λ_ h=>(by cases h),trivial⟩
  |t::ts,a::as,v::vs,d::ds,_,ha,hv,⟨p,q,h1,h2,_⟩=>by
    simp only[bg,oc] at ha;obtain⟨c,hc⟩:=Wu ha.1 (hv 0 t v rfl rfl) h1;obtain⟨cs,e1,e2,e3⟩:=OA ha.2 (λj t' v' ht eY=>hv (j+1) t' v' (by simpa using ht) (by simpa using eY)) h2;refine⟨c::cs,by simp[hc.val,e1],λx hx=>?_,⟨hc.z8,e3⟩⟩;rcases ct.1 hx with rfl|hx;· exact⟨hc.ok,hc.bare,hc.fp⟩
    · exact e2 x hx
def ak2{r:Reach}{base:Nat}{ts:List TypeId}{as:List mV}{vs:List Value}{ds:List (DataW H)}{p:List MemPlace}{f:FuncId}(ha:ts.map (tP P)=as.map some)
    (hv:∀(j:Nat) t v,ts[j]?=some t->vs[j]?=some v->Value.okWide P w r base t v)(hd:DataW.TrodAll enc P w 0 sp held ts vs ds p)
    (hAC:∀xs,vL as xs->@AC ⟨w⟩ P f xs λr _=>r=.bool true):Calls P f vs.toArray w λe w'=>e=.returned (.bool true)/\Below w.heap.size w w':=by
  obtain⟨cs,rfl,hcs,hc⟩:=OA ha hv hd;refine(hAC _ hc w (λb _=>b<w.heap.size) (λ_ _=>False) cs rfl ⟨λx hx=>(hcs x hx).1,λx hx=>(hcs x hx).2.1,λx hx b k hf=>((hcs x hx).2.2 b k hf).elim,λb k h=>h.elim id False.elim,?_⟩ λb hb=>⟨rfl,λk=>.inl hb⟩).mono λe w' ⟨r,ps,aD,hD,hr⟩=>?_;· refine nY.2 λi j hi hj _ b k hf=>((hcs _ (cN hi)).2.2 b k hf).elim
  · letI:Bs:=⟨w⟩
    have hr':=rT hr
    subst hr'
    exact⟨hD.ends,(hD.ext.mono (S':=λ_ _=>False) λb k ⟨x,hx,hf⟩ _=>(hcs x hx).2.2 b k hf).below⟩
def Wt{t:TypeId}{a:mV}(h:tP P t=some a):∃n deep ts,jy P n deep t=some ts:=by
  unfold tP at h;split at h
  · simp only[mR] at h
    obtain⟨ts,ht,_⟩:=h
    exact⟨_,_,ts,ht⟩
  · rename_i hu;exact⟨1,true,[.bool],by simp[jy,hu]⟩
  · rename_i k hu;exact⟨1,true,[.int k],by simp[jy,hu]⟩
  · rename_i hu;exact⟨1,true,[.str],by simp[jy,hu]⟩
  · simp only[ld] at h
    obtain⟨ts,ht,_⟩:=h
    exact⟨_,_,ts,ht⟩
  · cases h
def ajS{w':World}(hb:Below w.heap.size w w'):∀{ts:List TypeId} {as:List mV} {vs:List Value} {ds:List (DataW H)} {p:List MemPlace},ts.map (tP P)=as.map some->
    DataW.TrodAll enc P w 0 (λ_=>true) held ts vs ds p->DataW.TrodAll enc P w' 0 (λb=>decide (b<w.heap.size)) held ts vs ds p
  |[],[],[],[],_,_,h=>h
  |t::ts,a::as,v::vs,d::ds,_,ha,⟨p,q,⟨fuel,h1⟩,h2,e⟩=>by simp only[bg,oc] at ha;obtain⟨n,deep,tt,ht⟩:=Wt ha.1;have h3:=Ni n deep t tt ht _ _ _ h1;exact⟨p,q,⟨fuel,DataW.trod_carry _ _ _ _ h3 λm hm=>hb.same (DataW.trod_lt _ _ _ _ h3 m hm)⟩,ajS hb ha.2 h2,e⟩
end
end M
set_option linter.unusedVariables false
set_option linter.unusedSimpArgs false
namespace M
open Go
def vM(ts:List Ty)(r:List X):Prop:=r.length=ts.length/\∀(j:Nat) ty x,ts[j]?=some ty->r[j]?=some x->jc ty x
def vM.nil{r:List X}(h:vM [] r):r=[]:=UR.1 h.1
def vM.cons{ty:Ty}{ts:List Ty}{r:List X}(h:vM (ty::ts) r):∃x r',r=x::r'/\jc ty x/\vM ts r':=by
  obtain⟨h1,h2⟩:=h;cases r with
  |nil=>cases h1
  |cons x r=>exact⟨x,r,rfl,h2 0 ty x rfl rfl,by simpa using h1,λj ty x ht hx=>h2 (j+1) ty x (by simpa using ht) (by simpa using hx)⟩
def R8{α:Type}{e:α->List X}{ok:α->Prop}:∀{xs:List (List X)},(∀r∈xs,∃a,r=e a/\ok a)->∃l:List α,xs=l.map e/\∀a∈l,ok a
  |[],_=>⟨[],rfl,λ_ h=>by cases h⟩
  |r::xs,h=>by
    obtain⟨a,e1,e2⟩:=h r (bE ..);obtain⟨l,e3,e4⟩:=R8 (λr hr=>h r (cE _ hr));refine⟨a::l,by simp[e1,e3],λb hb=>?_⟩;rcases ct.1 hb with rfl|hb;· exact e2
    · exact e4 b hb
def Yr{α:Type}(e:α->List X)(ok:α->Prop){ts:List Ty}{x:X}(h:jc (.row ts) x)(hr:∀r,vM ts r->∃a,r=e a/\ok a):∃l:List α,x=.row .sl ts.length (l.map e)/\l.length<=9223372036854775807/\∀a∈l,ok a:=by
  cases h with
  |row h1 h2 h3=>rename_i xs;obtain⟨l,rfl,hl⟩:=R8 (e:=e) (ok:=ok) (xs:=xs) λr hr'=>hr r ⟨h2 r hr',h3 r hr'⟩;rw[dV] at h1;exact⟨l,rfl,h1,hl⟩
def alw{ty:Ty}{x:X}(h:tK (.one ty) x):jc ty x:=by
  cases h with
  |one h=>exact h
def alx{a:mV}{as:List mV}{xs:List X}(h:vL (a::as) xs):∃x xs',xs=x::xs'/\tK a x/\vL as xs':=by
  match xs,h with
  |x::xs',⟨h1,h2⟩=>exact⟨x,xs',rfl,h1,h2⟩
def aly{xs:List X}(h:vL [] xs):xs=[]:=by
  match xs,h with
  |[],_=>rfl
structure akv (d:bD):Prop where
  hb:d.cells.length<=9223372036854775807
  hs:∀s∈d.cells,s.length<=9223372036854775807
  hb':d.pending.length<=9223372036854775807
  hs':∀s∈d.pending,s.text.length<=9223372036854775807
  hi:∀s∈d.pending,-9223372036854775808<=s.at_/\s.at_<=9223372036854775807
def Yq{x:X}(h:jc (.int .u8) x):∃b:UInt8,x=.int .u8 (b.toNat:Int):=by
  cases h with
  |int h=>rename_i n;have h':(decide (IntKind.u8.min<=n) && decide (n<=IntKind.u8.max))=true:=h;rw[av,aZ,aZ] at h';have h1:0<=n:=h'.1;have h2:n<=255:=h'.2;refine⟨UInt8.ofNat n.toNat,?_⟩;rw[IF];congr 1;omega
def alz{x:X}(h:jc (.row [.int .u8]) x):∃l:List UInt8,x=.row .sl 1 (l.map eU)/\l.length<=9223372036854775807/\∀b∈l,True:=
  Yr eU (λ_=>True) h λr hr=>by obtain⟨x,r',rfl,h1,h2⟩:=hr.cons;obtain rfl:=h2.nil;obtain⟨b,rfl⟩:=Yq h1;exact⟨b,rfl,trivial⟩
end M
set_option linter.unusedVariables false
set_option linter.unusedSimpArgs false
namespace M
open Go
def ad6{γ:Type}{f:ah->cG}(st:γ->ah)(μ:γ->Nat)(Inv:γ->Prop)(E:γ->ah)
    (h:∀g,Inv g->(∃g',Inv g'/\f (st g)=some (.exit 0,E g'))\/∃g',Inv g'/\μ g'<μ g/\f (st g)=some (.normal,st g'))(g:γ)(hg:Inv g):∃g',Inv g'/\aJ f (st g)=some (.exit 0,E g'):=by
  suffices H:∀n g,μ g=n->Inv g->∃g',Inv g'/\aJ f (st g)=some (.exit 0,E g') from H _ g rfl hg
  intro n;induction n using Nat.strongRecOn with
  |ind n ih=>
    intro g hn hI;rcases h g hI with ⟨g',h1,h2⟩|⟨g',h1,h2,h3⟩;· exact⟨g',h1,by rw[dS,h2];rfl⟩
    · obtain⟨g2,h4,h5⟩:=ih _ (hn▸h2) g' rfl h1
      exact⟨g2,h4,by rw[dS,h3];exact h5⟩
end M
set_option linter.unusedVariables false
set_option linter.unusedSimpArgs false
namespace M
open Go
def Uc(m:Nat)(h:m<256):qX [[.int .u8 (m:Int)]]=some [UInt8.ofNat m]:=by
  have:=Nk [UInt8.ofNat m];have e:((UInt8.ofNat m).toNat:Int)=m:=by rw[IF];omega
  simp only[bg,gQ,e] at this;exact this
def Nu{n:Int}(h1:0<=n)(h2:n<256):IntKind.u8.wrap n=n:=by simp only[IntKind.wrap,IntKind.signed,IntKind.bits,Bool.false_and,fJ,eL];omega
def bq(n:Nat):ag:=Lib.decDigits n
def Sn:∀(n:Nat) (out:ag),n≠0->qy n out=bq n++out:=by
  intro n;induction n using Nat.strongRecOn with
  |ind n ih=>
    intro out h;unfold qy bq;rw[ri h,Lib.decDigits];by_cases h1:n<10
    · have e:n / 10=0:=by omega
      have e2:n%10=n:=by omega
      rw[jV h1,e,e2]
      unfold qy
      rw[jV rfl]
      rfl
    · rw[ri h1,ih (n / 10) (by omega) _ (by omega)]
      unfold bq
      rw[mS]
      rfl
def Et:bq 0=[48]:=by unfold bq;rw[Lib.decDigits];rfl
def wh(k:Nat):∀(n:Nat),n<10^(k+1)->(bq n).length<=k+1:=by
  induction k with
  |zero=>intro n h;unfold bq;rw[Lib.decDigits,jV (by simpa using h)];simp
  |succ k ih=>
    intro n h;unfold bq;rw[Lib.decDigits];by_cases h1:n<10;· rw[jV h1];simp
    · rw[ri h1,fK]
      have:=ih (n / 10) (by rw[IC] at h;omega)
      unfold bq at this
      simp only[cO,gS]
      omega
def Ld(n:Nat):Lib.itoa (n:Int)=bq n:=by unfold Lib.itoa bq;rw[aC (by omega)];rfl
def Bw:List X->Option X
  |[.int .i64 n]=>if -9223372036854775808<=n/\n<=9223372036854775807 then some (.str ⟨(Go.Lib.itoa n).toArray⟩) else none
  |_=>none
def adw(f:FuncId)(n:Nat)(h:n<10^18):kW f Bw f [.int .i64 (n:Int)]=some (.str ⟨(bq n).toArray⟩,[.dead]):=by
  have h1:(n:Int)<=9223372036854775807:=by omega
  have h2:=wh 17 n (by omega);simp[kW,Bw,Ld,scalar,Di,h1];omega
end M
set_option linter.unusedVariables false
set_option linter.unusedSimpArgs false
namespace M
open Go
def wS(s:ag):Nat:=s.length
def wL{α:Type}(w:α->Nat)(l:List α):Nat:=l.length+(l.map w).sum
def pn{α:Type}{w:α->Nat}:∀{l:List α} {a:α},a∈l->w a<=wL w l
  |b::l,a,h=>by
    rcases ct.1 h with rfl|h;· simp[wL];omega
    · have:=pn (w:=w) h
      simp[wL] at this⊢;omega
def bp{α:Type}{w:α->Nat}(l:List α):l.length<=wL w l:=by unfold wL;omega
def bI(n:Int):Prop:=-9223372036854775808<=n/\n<=9223372036854775807
def bS(s:ag):Prop:=s.length<=9223372036854775807
def bB(_:Bool):Prop:=True
def bL{α:Type}(b:α->Prop)(l:List α):Prop:=l.length<=9223372036854775807/\∀a∈l,b a
@[simp] def eI(n:Int):List X:=[.int .i64 n]
@[simp] def anh(m:Md)(l:List Int):X.cv m (l.map eI)=l.map eI:=by induction l<;>simp_all[X.cv,X.ey,X.md]
@[simp] def alc(l:List Int):X.clean.bz (l.map eI)=true:=by induction l<;>simp_all[X.clean.bz,X.clean.cL,X.clean]
structure aE where
  name:ag
  value:ag
  deriving DecidableEq
@[simp] def aH(a:aE):List X:=[.str ⟨(a.name).toArray⟩,.str ⟨(a.value).toArray⟩]
@[simp] def ang(m:Md)(l:List aE):X.cv m (l.map aH)=l.map aH:=by induction l<;>simp_all[X.cv,X.ey,X.md]
@[simp] def alb(l:List aE):X.clean.bz (l.map aH)=true:=by induction l<;>simp_all[X.clean.bz,X.clean.cL,X.clean]
def aF(a:aE):Nat:=a.name.length+a.value.length
structure OD (x:aE):Prop where
  amN:bS x.name
  amZ:bS x.value
structure ck where
  status:Int
  fields:List aE
  body:ag
  deriving DecidableEq
@[simp] def jC(m:Md)(a:ck):List X:=[.int .i64 a.status,.row m 2 ((a.fields).map aH),.str ⟨(a.body).toArray⟩]
@[simp] def anl(m m':Md)(l:List ck):X.cv m (l.map (jC m'))=l.map (jC m):=by induction l<;>simp_all[X.cv,X.ey,X.md]
@[simp] def alg(l:List ck):X.clean.bz (l.map (jC .own))=true:=by induction l<;>simp_all[X.clean.bz,X.clean.cL,X.clean]
@[simp] def alr(l:List ck):X.clean.bz (l.map (jC .sl))=true:=by induction l<;>simp_all[X.clean.bz,X.clean.cL,X.clean]
def bQ(a:ck):Nat:=wL aF a.fields+a.body.length
structure D7 (x:ck):Prop where
  amX:bI x.status
  adD:(bL OD) x.fields
  adB:bS x.body
structure Rq where
  method:Int
  path:ag
  fields:List aE
  body:ag
  deriving DecidableEq
@[simp] def dw(m:Md)(a:Rq):List X:=[.int .i64 a.method,.str ⟨(a.path).toArray⟩,.row m 2 ((a.fields).map aH),.str ⟨(a.body).toArray⟩]
@[simp] def ank(m m':Md)(l:List Rq):X.cv m (l.map (dw m'))=l.map (dw m):=by induction l<;>simp_all[X.cv,X.ey,X.md]
@[simp] def alf(l:List Rq):X.clean.bz (l.map (dw .own))=true:=by induction l<;>simp_all[X.clean.bz,X.clean.cL,X.clean]
@[simp] def alq(l:List Rq):X.clean.bz (l.map (dw .sl))=true:=by induction l<;>simp_all[X.clean.bz,X.clean.cL,X.clean]
def dh(a:Rq):Nat:=a.path.length+wL aF a.fields+a.body.length
structure D6 (x:Rq):Prop where
  amM:bI x.method
  adF:bS x.path
  adD:(bL OD) x.fields
  adB:bS x.body
structure Ob where
  path:ag
  names:List ag
  values:List ag
  resp:ck
  t:Int
  deriving DecidableEq
@[simp] def aV(m:Md)(a:Ob):List X:=[.str ⟨(a.path).toArray⟩,.row m 1 ((a.names).map eS),.row m 1 ((a.values).map eS),.int .i64 a.resp.status,.row m 2 ((a.resp.fields).map aH),.str ⟨(a.resp.body).toArray⟩,.int .i64 a.t]
@[simp] def ani(m m':Md)(l:List Ob):X.cv m (l.map (aV m'))=l.map (aV m):=by induction l<;>simp_all[X.cv,X.ey,X.md]
@[simp] def ald(l:List Ob):X.clean.bz (l.map (aV .own))=true:=by induction l<;>simp_all[X.clean.bz,X.clean.cL,X.clean]
@[simp] def alo(l:List Ob):X.clean.bz (l.map (aV .sl))=true:=by induction l<;>simp_all[X.clean.bz,X.clean.cL,X.clean]
def bP(a:Ob):Nat:=a.path.length+wL wS a.names+wL wS a.values+bQ a.resp
structure I8 (x:Ob):Prop where
  adF:bS x.path
  amO:(bL bS) x.names
  am0:(bL bS) x.values
  Lf:D7 x.resp
  Lg:bI x.t
structure Kp where
  obj:Ob
  at_:Int
  seq:Int
  deriving DecidableEq
@[simp] def aP(m:Md)(a:Kp):List X:=[.str ⟨(a.obj.path).toArray⟩,.row m 1 ((a.obj.names).map eS),.row m 1 ((a.obj.values).map eS),.int .i64 a.obj.resp.status,.row m 2 ((a.obj.resp.fields).map aH),.str ⟨(a.obj.resp.body).toArray⟩,.int .i64 a.obj.t,.int .i64 a.at_,.int .i64 a.seq]
@[simp] def Lu(m m':Md)(l:List Kp):X.cv m (l.map (aP m'))=l.map (aP m):=by induction l<;>simp_all[X.cv,X.ey,X.md]
@[simp] def Pw(l:List Kp):X.clean.bz (l.map (aP .own))=true:=by induction l<;>simp_all[X.clean.bz,X.clean.cL,X.clean]
@[simp] def Yl(l:List Kp):X.clean.bz (l.map (aP .sl))=true:=by induction l<;>simp_all[X.clean.bz,X.clean.cL,X.clean]
def bO(a:Kp):Nat:=bP a.obj
structure Wy (x:Kp):Prop where
  adE:I8 x.obj
  adz:bI x.at_
  adG:bI x.seq
def dz(a:Wr):Nat:=a.text.length
structure WC (x:Wr):Prop where
  adz:bI x.at_
  amY:bS x.text
def bW(a:bD):Nat:=wL wS a.cells+wL dz a.pending
structure Ww (x:bD):Prop where
  amH:(bL bS) x.cells
  amT:(bL WC) x.pending
structure Bn where
  kind:Int
  a:ag
  b:ag
  t:Int
  deriving DecidableEq
@[simp] def cu(a:Bn):List X:=[.int .i64 a.kind,.str ⟨(a.a).toArray⟩,.str ⟨(a.b).toArray⟩,.int .i64 a.t]
@[simp] def anb(m:Md)(l:List Bn):X.cv m (l.map cu)=l.map cu:=by induction l<;>simp_all[X.cv,X.ey,X.md]
@[simp] def ak7(l:List Bn):X.clean.bz (l.map cu)=true:=by induction l<;>simp_all[X.clean.bz,X.clean.cL,X.clean]
def aW(a:Bn):Nat:=a.a.length+a.b.length
structure OC (x:Bn):Prop where
  RS:bI x.kind
  k_a:bS x.a
  k_b:bS x.b
  Lg:bI x.t
structure Sh where
  aI:bD
  ai:List Kp
  aG:List Bn
  next:Int
  seq:Int
  deriving DecidableEq
@[simp] def aO(m:Md)(a:Sh):List X:=[.row m 1 ((a.aI.cells).map eS),.row m 2 ((a.aI.pending).map eW),.row m 9 ((a.ai).map (aP m)),.row m 4 ((a.aG).map cu),.int .i64 a.next,.int .i64 a.seq]
@[simp] def ano(m m':Md)(l:List Sh):X.cv m (l.map (aO m'))=l.map (aO m):=by induction l<;>simp_all[X.cv,X.ey,X.md]
@[simp] def ali(l:List Sh):X.clean.bz (l.map (aO .own))=true:=by induction l<;>simp_all[X.clean.bz,X.clean.cL,X.clean]
@[simp] def alu(l:List Sh):X.clean.bz (l.map (aO .sl))=true:=by induction l<;>simp_all[X.clean.bz,X.clean.cL,X.clean]
def bw(a:Sh):Nat:=bW a.aI+wL bO a.ai+wL aW a.aG
structure WB (x:Sh):Prop where
  amI:Ww x.aI
  amR:(bL Wy) x.ai
  adA:(bL OC) x.aG
  amP:bI x.next
  adG:bI x.seq
structure Fl where
  q:Rq
  who:List Int
  old:Ob
  E3:Bool
  deriving DecidableEq
@[simp] def Ai(m:Md)(a:Fl):List X:=[.int .i64 a.q.method,.str ⟨(a.q.path).toArray⟩,.row m 2 ((a.q.fields).map aH),.str ⟨(a.q.body).toArray⟩,.row m 1 ((a.who).map eI),.str ⟨(a.old.path).toArray⟩,.row m 1 ((a.old.names).map eS),.row m 1 ((a.old.values).map eS),.int .i64 a.old.resp.status,.row m 2 ((a.old.resp.fields).map aH),.str ⟨(a.old.resp.body).toArray⟩,.int .i64 a.old.t,.bool a.E3]
@[simp] def anf(m m':Md)(l:List Fl):X.cv m (l.map (Ai m'))=l.map (Ai m):=by induction l<;>simp_all[X.cv,X.ey,X.md]
@[simp] def ala(l:List Fl):X.clean.bz (l.map (Ai .own))=true:=by induction l<;>simp_all[X.clean.bz,X.clean.cL,X.clean]
@[simp] def aln(l:List Fl):X.clean.bz (l.map (Ai .sl))=true:=by induction l<;>simp_all[X.clean.bz,X.clean.cL,X.clean]
structure Wx (x:Fl):Prop where
  Le:D6 x.q
  am1:(bL bI) x.who
  amS:I8 x.old
  amK:bB x.E3
structure Se where
  q:Rq
  resp:ck
  t:Int
  deriving DecidableEq
@[simp] def Ak(m:Md)(a:Se):List X:=[.int .i64 a.q.method,.str ⟨(a.q.path).toArray⟩,.row m 2 ((a.q.fields).map aH),.str ⟨(a.q.body).toArray⟩,.int .i64 a.resp.status,.row m 2 ((a.resp.fields).map aH),.str ⟨(a.resp.body).toArray⟩,.int .i64 a.t]
@[simp] def ann(m m':Md)(l:List Se):X.cv m (l.map (Ak m'))=l.map (Ak m):=by induction l<;>simp_all[X.cv,X.ey,X.md]
@[simp] def alh(l:List Se):X.clean.bz (l.map (Ak .own))=true:=by induction l<;>simp_all[X.clean.bz,X.clean.cL,X.clean]
@[simp] def als(l:List Se):X.clean.bz (l.map (Ak .sl))=true:=by induction l<;>simp_all[X.clean.bz,X.clean.cL,X.clean]
structure WA (x:Se):Prop where
  Le:D6 x.q
  Lf:D7 x.resp
  Lg:bI x.t
structure Rp where
  client:Int
  q:Rq
  resp:ck
  kind:Int
  t:Int
  obj:Ob
  aG:Int
  deriving DecidableEq
@[simp] def Aj(m:Md)(a:Rp):List X:=[.int .i64 a.client,.int .i64 a.q.method,.str ⟨(a.q.path).toArray⟩,.row m 2 ((a.q.fields).map aH),.str ⟨(a.q.body).toArray⟩,.int .i64 a.resp.status,.row m 2 ((a.resp.fields).map aH),.str ⟨(a.resp.body).toArray⟩,.int .i64 a.kind,.int .i64 a.t,.str ⟨(a.obj.path).toArray⟩,.row m 1 ((a.obj.names).map eS),.row m 1 ((a.obj.values).map eS),.int .i64 a.obj.resp.status,.row m 2 ((a.obj.resp.fields).map aH),.str ⟨(a.obj.resp.body).toArray⟩,.int .i64 a.obj.t,.int .i64 a.aG]
@[simp] def anj(m m':Md)(l:List Rp):X.cv m (l.map (Aj m'))=l.map (Aj m):=by induction l<;>simp_all[X.cv,X.ey,X.md]
@[simp] def ale(l:List Rp):X.clean.bz (l.map (Aj .own))=true:=by induction l<;>simp_all[X.clean.bz,X.clean.cL,X.clean]
@[simp] def alp(l:List Rp):X.clean.bz (l.map (Aj .sl))=true:=by induction l<;>simp_all[X.clean.bz,X.clean.cL,X.clean]
structure Wz (x:Rp):Prop where
  adC:bI x.client
  Le:D6 x.q
  Lf:D7 x.resp
  RS:bI x.kind
  Lg:bI x.t
  adE:I8 x.obj
  adA:bI x.aG
structure Ca where
  jx:Sh
  ni:List Fl
  now:Int
  seen:List Se
  sent:List Rp
  deriving DecidableEq
@[simp] def Ew(m:Md)(a:Ca):List X:=[.row m 1 ((a.jx.aI.cells).map eS),.row m 2 ((a.jx.aI.pending).map eW),.row m 9 ((a.jx.ai).map (aP m)),.row m 4 ((a.jx.aG).map cu),.int .i64 a.jx.next,.int .i64 a.jx.seq,.row m 13 ((a.ni).map (Ai m)),.int .i64 a.now,.row m 8 ((a.seen).map (Ak m)),.row m 18 ((a.sent).map (Aj m))]
@[simp] def anc(m m':Md)(l:List Ca):X.cv m (l.map (Ew m'))=l.map (Ew m):=by induction l<;>simp_all[X.cv,X.ey,X.md]
@[simp] def ak8(l:List Ca):X.clean.bz (l.map (Ew .own))=true:=by induction l<;>simp_all[X.clean.bz,X.clean.cL,X.clean]
@[simp] def alk(l:List Ca):X.clean.bz (l.map (Ew .sl))=true:=by induction l<;>simp_all[X.clean.bz,X.clean.cL,X.clean]
structure bCa (x:Ca):Prop where
  amW:WB x.jx
  amJ:(bL Wx) x.ni
  amQ:bI x.now
  amU:(bL WA) x.seen
  amV:(bL Wz) x.sent
structure De where
  kind:Int
  client:Int
  q:Rq
  a:Int
  resp:ck
  rE:Bn
  keep:List Bool
  deriving DecidableEq
@[simp] def Ey(m:Md)(a:De):List X:=[.int .i64 a.kind,.int .i64 a.client,.int .i64 a.q.method,.str ⟨(a.q.path).toArray⟩,.row m 2 ((a.q.fields).map aH),.str ⟨(a.q.body).toArray⟩,.int .i64 a.a,.int .i64 a.resp.status,.row m 2 ((a.resp.fields).map aH),.str ⟨(a.resp.body).toArray⟩,.int .i64 a.rE.kind,.str ⟨(a.rE.a).toArray⟩,.str ⟨(a.rE.b).toArray⟩,.int .i64 a.rE.t,.row m 1 ((a.keep).map eB)]
@[simp] def ane(m m':Md)(l:List De):X.cv m (l.map (Ey m'))=l.map (Ey m):=by induction l<;>simp_all[X.cv,X.ey,X.md]
@[simp] def ak9(l:List De):X.clean.bz (l.map (Ey .own))=true:=by induction l<;>simp_all[X.clean.bz,X.clean.cL,X.clean]
@[simp] def alm(l:List De):X.clean.bz (l.map (Ey .sl))=true:=by induction l<;>simp_all[X.clean.bz,X.clean.cL,X.clean]
structure bDe (x:De):Prop where
  RS:bI x.kind
  adC:bI x.client
  Le:D6 x.q
  k_a:bI x.a
  Lf:D7 x.resp
  amG:OC x.rE
  amL:(bL bB) x.keep
end M
set_option linter.unusedVariables false
set_option linter.unusedSimpArgs false
namespace M
open Go
def cY{β:Type}(p:β->Bool):Nat->List β->Option (Nat×β)
  |_,[]=>none
  |i,b::l=>if p b=true then some (i,b) else cY p (i+1) l
def wE{β:Type}{p:β->Bool}:∀{l:List β} {k i:Nat} {b:β},cY p k l=some (i,b)->k<=i/\l[i - k]?=some b/\p b=true
  |b'::l,k,i,b,h=>by
    unfold cY at h;split at h
    · rename_i hp
      cases h
      exact⟨dF _,by simp,hp⟩
    · obtain⟨h1,h2,h3⟩:=wE h
      refine⟨by omega,?_,h3⟩
      rw[show i - k=(i - (k+1))+1 by omega,IU]
      exact h2
def Qq{β:Type}{p:β->Bool}:∀{l:List β} {k:Nat},cY p k l=none↔∀b∈l,¬p b=true
  |[],k=>by simp[cY]
  |b'::l,k=>by
    unfold cY;by_cases hp:p b'=true;· simp[hp]
    · rw[aC hp,Qq]
      simp[hp]
def uD{xt:Nat}{β:Type}{f:ah->cG}(l:List β)(st:Nat->ah)(p:β->Bool)(R:Nat->β->ah)(E:ah)
    (h:∀i b,l[i]?=some b->i<l.length->f (st i)=if p b=true then some (.ret,R i b) else some (.normal,st (i+1)))
    (hend:f (st l.length)=some (.exit xt,E)):
    aJ f (st 0)=(cY p 0 l).elim (some (.exit xt,E)) λx=>some (.ret,R x.1 x.2):=by
  suffices H:∀(r:List β) (i:Nat),l.drop i=r->i<=l.length->aJ f (st i)=(cY p i r).elim (some (.exit xt,E)) λx=>some (.ret,R x.1 x.2) from H l 0 rfl (q7 _)
  intro r;induction r with
  |nil=>
    intro i hr hi;have:i=l.length:=by have:=dA List.length hr;simp at this;omega
    subst this;rw[dS,hend];rfl
  |cons b r ih=>
    intro i hr hi;have hb:l[i]?=some b:=by have:=dA (λt:List β=>t[0]?) hr;simpa using this
    have hlt:i<l.length:=(aN.1 hb).1;have hd:l.drop (i+1)=r:=by have:=dA List.tail hr;simpa using this
    rw[dS,h i b hb hlt];unfold cY;by_cases hp:p b=true;· simp[hp,lv]
    · simp only[hp]
      exact ih (i+1) hd hlt
def qw{xt:Nat}{β γ:Type}{f:ah->cG}(l:List β)(φ:β->List γ)(st:Nat->List γ->ah)(E:List γ->ah)
    (h:∀i b out,l[i]?=some b->i<l.length->out=(l.take i).flatMap φ->f (st i out)=some (.normal,st (i+1) (out++φ b)))
    (hend:∀out,out=l.flatMap φ->f (st l.length out)=some (.exit xt,E out)):
    aJ f (st 0 [])=some (.exit xt,E (l.flatMap φ)):=by
  suffices H:∀(k i:Nat),i+k=l.length->aJ f (st i ((l.take i).flatMap φ))=some (.exit xt,E (l.flatMap φ)) from H l.length 0 (by omega)
  intro k;induction k with
  |zero=>
    intro i hi;obtain rfl:i=l.length:=by omega
    rw[vF,dS,hend _ rfl];rfl
  |succ k ih=>
    intro i hi;have hlt:i<l.length:=by omega
    rw[dS,h i l[i] _ (cj hlt) hlt rfl];have:(l.take i).flatMap φ++φ l[i]=(l.take (i+1)).flatMap φ:=by rw[qZ hlt,N0];simp
    simp only[this];exact ih (i+1) (by omega)
def Ao{β γ:Type}(g:β->γ)(l:List β):l.flatMap (λb=>[g b])=l.map g:=by induction l<;>simp_all
def Ap{β γ:Type}(g:β->γ)(l:List β)(i:Nat)(h:i<=l.length):((l.take i).flatMap (λb=>[g b])).length=i:=by rw[Ao];simp;omega
end M
set_option linter.unusedVariables false
set_option linter.unusedSimpArgs false
namespace M
open Go
def nD(b:UInt8):UInt8:=if 65<=b.toNat/\b.toNat<=90 then b+32 else b
def cC(s:ag):ag:=s.map nD
def tn(b:UInt8):Bool:=decide ((97<=b.toNat/\b.toNat<=122)\/(48<=b.toNat/\b.toNat<=57)\/b.toNat=45)
def eE(s:ag):Bool:=bu tn s && decide (1<=(s.length:Int)/\(s.length:Int)<=20)
def iY(lo:Nat)(b:UInt8):Bool:=decide (lo<=b.toNat/\b.toNat<=126)
def gA(s:ag):ag:=Lib.trimB s 32
def fZ(s:ag):Bool:=bu (iY 32) s && decide (1<=(s.length:Int)/\(s.length:Int)<=60) && decide (gA s=s)
def en(n:Int):ag:=if 0<=n/\n<=1000000 then bq n.toNat else []
def iC(b:UInt8):Bool:=decide (48<=b.toNat/\b.toNat<=57)
def k8(s:ag):Nat:=s.foldl (λx b=>10*x+b.toNat - 48) 0
def bT(s:ag):Option Nat:=if k8 s<=1000000/\bq (k8 s)=s then some (k8 s) else none
def ij(s:ag):Bool:=bu (iY 33) s && decide (1<=(s.length:Int)/\(s.length:Int)<=60) && decide (s[0]?.map (λb:UInt8=>(b.toNat:Int))=some 47)
def JK{α:Type}(p:α->Bool):∀(a b:List α),(∃x∈a,p x=false)->(a++b).dropWhile p=a.dropWhile p++b
  |[],b,h=>by simp at h
  |x::a,b,h=>by
    simp only[e9,zj];by_cases hx:p x=true
    · simp only[hx,dB]
      refine JK p a b ?_
      obtain⟨y,hy,hp⟩:=h
      rcases ct.1 hy with rfl|hy
      · rw[hx] at hp;cases hp
      · exact⟨y,hy,hp⟩
    · simp[hx]
def JJ{α:Type}(p:α->Bool):∀(a:List α),(∀x∈a,p x=true)->a.dropWhile p=[]
  |[],_=>rfl
  |x::a,h=>by rw[zj,aA (h x (bE ..))];exact JJ p a λy hy=>h y (cE _ hy)
def JL{α:Type}(p:α->Bool):∀{a:List α} {x:α},x∈a->p x=false->x∈a.dropWhile p
  |y::a,x,h,hp=>by
    rw[zj];by_cases hy:p y=true
    · rw[aA hy]
      rcases ct.1 h with rfl|h
      · rw[hy] at hp;cases hp
      · exact JL p h hp
    · rw[aC hy];exact h
def PO{α:Type}(p:α->Bool)(l:List α):∃a,l=a++l.dropWhile p/\∀x∈a,p x=true:=by refine⟨l.takeWhile p,(List.takeWhile_append_dropWhile).symm,λx hx=>?_⟩;have:=List.all_takeWhile (l:=l) (p:=p);exact pI.1 this x hx
def ajR(p:UInt8->Bool)(l:List UInt8):(l.reverse.dropWhile p).reverse.dropWhile p=((l.dropWhile p).reverse.dropWhile p).reverse:=by
  by_cases h:∃x∈l,p x=false
  · obtain⟨x,hx,hp⟩:=h
    obtain⟨a,e1,h1⟩:=PO p l
    have hm:x∈l.dropWhile p:=JL p hx hp
    have e2:l.reverse.dropWhile p=(l.dropWhile p).reverse.dropWhile p++a.reverse:=by
      conv=>lhs;rw[e1,Iy]
      exact JK p _ _ ⟨x,by simpa using hm,hp⟩
    rw[e2,Iy,UE]
    obtain⟨b,e3,h3⟩:=PO p (l.dropWhile p).reverse
    generalize hd:(l.dropWhile p).reverse.dropWhile p=d at e3⊢
    have acs:∃y∈d,p y=false:=⟨x,by rw[<-hd];exact JL p (by simpa using hm) hp,hp⟩
    have e4:l.dropWhile p=d.reverse++b.reverse:=by have:=dA List.reverse e3;simpa using this
    have e5:(a++d.reverse).dropWhile p=d.reverse.dropWhile p:=by
      clear e1 e2 e3 hm;induction a with
      |nil=>rfl
      |cons y a ih=>rw[e9,zj,aA (h1 y (bE ..))];exact ih λz hz=>h1 z (cE _ hz)
    rw[e5]
    have e6:(l.dropWhile p).dropWhile p=l.dropWhile p:=by
      have:∀l:List UInt8,(l.dropWhile p).dropWhile p=l.dropWhile p:=by
        intro l;induction l with
        |nil=>rfl
        |cons y l ih=>
          rw[zj];by_cases hy:p y=true;· rw[aA hy];exact ih
          · rw[aC hy,zj,aC hy]
      exact this l
    rw[e4] at e6
    rw[JK p d.reverse b.reverse (by obtain⟨y,hy,hp⟩:=acs;exact⟨y,by simpa using hy,hp⟩)] at e6
    exact List.append_cancel_right e6
  · have h1:∀x∈l,p x=true:=λx hx=>by
      cases hp:p x with
      |true=>rfl
      |false=>exact absurd ⟨x,hx,hp⟩ h
    rw[JJ p l h1,JJ p l.reverse (λx hx=>h1 x (by simpa using hx))]
    rfl
def ajQ(s:ag):gA s=Lib.trimRightB (Lib.trimLeftB s 32) 32:=ajR _ s
def T7(s:ag):(gA s).length<=s.length:=by unfold gA Lib.trimB Lib.trimLeftB Lib.trimRightB;have h1:=(UM (l:=(List.dropWhile (λx=>x==32) s.reverse).reverse) (λx=>x==(32:UInt8))).length_le;have h2:=(UM (l:=s.reverse) (λx=>x==(32:UInt8))).length_le;simp only[Oa] at h1 h2;omega
def abN{α β:Type}(f:β->α->β)(l:List α)(a:α)(b:β):(l++[a]).foldl f b=f (l.foldl f b) a:=by simp
def JF(n:Nat):bq n≠[]:=by intro h;have:(bq n).length=Lib.nDigits n:=Lib.decDigits_length n;rw[h] at this;have h2:=Lib.nDigits_pos n;rw[<-this] at h2;simp at h2
def JH(n:Nat)(h:¬n<10):bq n=bq (n / 10)++[UInt8.ofNat (48+n%10)]:=by unfold bq;rw[Lib.decDigits,ri h]
def JG(n:Nat)(h:n<10):bq n=[UInt8.ofNat (48+n)]:=by unfold bq;rw[Lib.decDigits,jV h]
def wj(k:Nat)(h:k<10):(UInt8.ofNat (48+k)).toNat=48+k:=by rw[IF];omega
def Uf:∀n:Nat,k8 (bq n)=n:=by
  intro n;induction n using Nat.strongRecOn with
  |ind n ih=>
    by_cases h:n<10
    · rw[JG n h]
      simp only[k8,pJ,List.foldl_nil,wj n h]
      omega
    · rw[JH n h]
      have:=ih (n / 10) (by omega)
      unfold k8 at this⊢
      rw[abN,this,wj _ (by omega)]
      omega
def JE:∀n:Nat,bu iC (bq n)=true:=by
  intro n;induction n using Nat.strongRecOn with
  |ind n ih=>
    rw[ff];by_cases h:n<10
    · rw[JG n h]
      intro x hx
      rw[fH.1 hx]
      unfold iC
      rw[wj n h]
      simp;omega
    · rw[JH n h]
      intro x hx
      rcases dK.1 hx with hx|hx
      · exact ff.1 (ih _ (by omega)) x hx
      · rw[fH.1 hx]
        unfold iC
        rw[wj _ (by omega)]
        simp;omega
def nI{s:ag}{n:Nat}:bT s=some n↔n<=1000000/\bq n=s:=by
  unfold bT;constructor
  · intro h
    split at h
    · rename_i hc
      cases h
      exact hc
    · cases h
  · rintro ⟨h1,rfl⟩
    rw[Uf,aA ⟨h1,rfl⟩]
def ow(n:Nat)(h:n<=1000000):(bq n).length<=7:=wh 6 n (by omega)
def Ge(n:Nat)(h:n<=1000000):en (n:Int)=bq n:=by unfold en;rw[aA (by omega)];rfl
def aeK(n:Nat)(h:n<=1000000):bT (en n)=some n:=nI.2 ⟨h,(Ge n h).symm⟩
def aeI(s:ag)(h:s.length<=7):bT s=if s≠[]/\bu iC s=true/\en (k8 s)=s then some (k8 s) else none:=by
  cases hr:bT s with
  |some n=>obtain⟨h1,rfl⟩:=nI.1 hr;rw[Uf,aA ⟨JF n,JE n,Ge n h1⟩]
  |none=>
    rw[aC];rintro ⟨h1,h2,h3⟩
    have:bT s=some (k8 s):=by
      refine nI.2 ?_;unfold en at h3;split at h3
      · rename_i hc
        exact⟨by omega,h3⟩
      · exact absurd h3.symm h1
    rw[this] at hr;cases hr
def afM:∀(n acc:Nat) (l:List UInt8),acc*10^Lib.nDigits n+n<10000000000->Lib.parseUint10 acc (bq n++l)=Lib.parseUint10 (acc*10^Lib.nDigits n+n) l:=by
  intro n;induction n using Nat.strongRecOn with
  |ind n ih=>
    intro acc l hn;by_cases h:n<10
    · rw[JG n h]
      simp only[e9,jz,Lib.parseUint10,wj n h]
      rw[Lib.nDigits_small h] at hn⊢
      rw[aA (by omega),aC (by omega),aC (by omega)]
      congr 1
      omega
    · rw[JH n h,mS]
      have e:=Lib.nDigits_big h
      rw[e,IC] at hn⊢
      have hm:acc*(10^Lib.nDigits (n / 10)*10)=acc*10^Lib.nDigits (n / 10)*10:=by rw[Nat.mul_assoc]
      rw[hm] at hn⊢
      rw[ih (n / 10) (by omega) acc _ (by omega)]
      have hd:=wj (n%10) (by omega)
      simp only[e9,jz,Lib.parseUint10,hd]
      rw[aA (by omega),aC (by omega),aC (by omega)]
      congr 1
      omega
def OB(n:Nat)(h:n<=1000000):Lib.atoiAll (bq n)=.ok (n:Int):=by
  cases hd:bq n with
  |nil=>exact absurd hd (JF n)
  |cons c r=>have hc:=ff.1 (JE n) c (by rw[hd];exact bE ..);simp only[iC,aZ] at hc;rw[Lib.atoiAll_plain c r (by omega) (by omega),<-hd];unfold Lib.parseMag;rw[aC (JF n)];have:=afM n 0 [] (by omega);rw[oa] at this;rw[this];simp only[Lib.parseUint10,Lib.signless];rw[aC (by omega)];simp
def aeH(s:ag)(n:Int)(h:Lib.atoiAll s=.ok n):(if 0<=n/\n<=1000000/\Lib.itoa n=s then some n.toNat else none)=bT s:=by
  split
  · rename_i hc
    symm
    refine nI.2 ⟨by omega,?_⟩
    rw[<-Ld,<-hc.2.2]
    congr 1
    omega
  · rename_i hc
    cases hr:bT s with
    |none=>rfl
    |some m=>
      obtain⟨h1,rfl⟩:=nI.1 hr
      rw[OB m h1] at h
      obtain rfl:(m:Int)=n:=by injection h
      exact absurd ⟨by omega,by omega,Ld m⟩ hc
def aeJ(s:ag)(h:∀n,Lib.atoiAll s≠.ok n):bT s=none:=by
  cases hr:bT s with
  |none=>rfl
  |some m=>obtain⟨h1,rfl⟩:=nI.1 hr;exact absurd (OB m h1) (h m)
def SE(s:ag)(h:7<s.length):bT s=none:=by
  cases hr:bT s with
  |none=>rfl
  |some m=>obtain⟨h1,rfl⟩:=nI.1 hr;have:=ow m h1;omega
def cw(c:UInt8):ag->List ag
  |[]=>[[]]
  |b::s=>if b=c then []::cw c s else match cw c s with
    |w::ws=>(b::w)::ws
    |[]=>[[b]]
def HW(c:UInt8)(s:ag):cw c s≠[]:=by
  cases s with
  |nil=>simp[cw]
  |cons b s=>
    unfold cw;split;· simp
    · split<;>simp
def iI(s:ag):List ag:=((cw 44 s).map gA).filter λw=>decide (w≠[])
end M
set_option linter.unusedVariables false
set_option linter.unusedSimpArgs false
namespace M
open Go Go.RowKit
def kD(w w':World)(c:C):Prop:=(∀Z,c.ok w' Z)/\c.bare/\∀b k,c.fp b k->w.heap.size<=b
def Wf[Bs]{P:Program}{f:FuncId}{xs:List X}{r:X}
    (h:∀w zl zb cs,cs.map C.er=xs->mW w zl zb cs->oh w->Calls P f (cs.map C.val).toArray w λe w'=>∃c:C,e=.returned c.val/\c.er=r/\Below w.heap.size w w'/\kD w w' c):
    AC P f xs λr' ps=>r'=r/\ps=xs.map λ_=>.dead:=by
  intro w zl zb cs e hA jm;refine(h w zl zb cs e hA λb hb=>(jm b hb).1).mono λe' w' ⟨c,he,hc,hb,c1,c2,c3⟩=>?_;have AL:Ext (λb k=>∃x∈cs,x.fp b k) w w':=⟨hb.os,hb.tape,hb.output,hb.size,λb hl=>.inl (hb.block b hl)⟩;refine⟨c,cs.map λx=>.dead x.val,zl,⟨he,by rw[cP];rfl,AL,⟨λx hx'=>?_,λx hx'=>?_,λx hx' b k hf=>?_,λb k hz=>jT (hA.cI b k (hz.imp id λh=>h.elim)) hb.size,?_⟩,λx hx' b k hf=>?_,λ_ _ h=>h,λ_ _ h=>.inl h⟩,hc,?_⟩
  · rcases ct.1 hx' with rfl|hx'
    · exact c1 _
    · obtain⟨y,_,rfl⟩:=aT.1 hx';trivial
  · rcases ct.1 hx' with rfl|hx'
    · exact c2
    · obtain⟨y,_,rfl⟩:=aT.1 hx';trivial
  · rcases ct.1 hx' with rfl|hx'
    · have h1:=c3 b k hf
      exact⟨λhz=>by have:=hA.cI b k (.inl hz);omega,λhz=>hz⟩
    · obtain⟨y,_,rfl⟩:=aT.1 hx';exact hf.elim
  · refine eZ.2 ⟨λx hx b k hf hf'=>?_,?_⟩
    · obtain⟨y,_,rfl⟩:=aT.1 hx;exact hf'
    · refine nY.2 λi j hi hj _ b k hf=>?_
      obtain⟨y,_,hy⟩:=aT.1 (cN hi)
      rw[<-hy] at hf
      exact hf.elim
  · rcases ct.1 hx' with rfl|hx'
    · exact .inr (c3 b k hf)
    · obtain⟨y,_,rfl⟩:=aT.1 hx';exact hf.elim
  · rw[<-e]
    simp[cP,IK,C.er]
def eN(f0:FuncId)(g:List X->Option X):cB:=λf xs=>if f=f0 then (match g xs with
  |some r=>some (r,xs.map λ_=>.dead)
  |none=>none) else none
def xB[Bs]{P:Program}{f0:FuncId}{g:List X->Option X}
    (h:∀xs r,g xs=some r->∀w zl zb cs,cs.map C.er=xs->mW w zl zb cs->oh w->Calls P f0 (cs.map C.val).toArray w λe w'=>∃c:C,e=.returned c.val/\c.er=r/\Below w.heap.size w w'/\kD w w' c):(eN f0 g).Sound P:=λf xs o e=>by
  unfold eN at e;split at e
  · rename_i hf
    subst hf
    split at e
    · rename_i r hr
      cases e
      exact Wf (h xs r hr)
    · cases e
  · cases e
def kH{c:C}{s:ByteArray}(h:c.er=.str s):c=.str s:=by cases c<;>simp[C.er] at h;rw[h]
def pY{c:C}{k:IntKind}{n:Int}(h:c.er=.int k n):c=.int k n:=by cases c<;>simp[C.er] at h;rw[h.1,h.2]
def P8{c:C}{b:Bool}(h:c.er=.bool b):c=.bool b:=by cases c<;>simp[C.er] at h;rw[h]
def map_nil{l:List C}(h:l.map C.er=[]):l=[]:=by simpa using h
def map_cons{l:List C}{x:X}{xs:List X}(h:l.map C.er=x::xs):∃c cs,l=c::cs/\c.er=x/\cs.map C.er=xs:=by
  cases l with
  |nil=>simp at h
  |cons c cs=>simp at h;exact⟨c,cs,rfl,h.1,h.2⟩
def J4{w w':World}{s:ByteArray}(h:s.size<=9223372036854775807):kD w w' (.str s):=⟨λ_=>h,trivial,λ_ _ h=>h.elim⟩
def abO{w w':World}{k:IntKind}{n:Int}:kD w w' (.int k n):=⟨λ_=>trivial,trivial,λ_ _ h=>h.elim⟩
def J3{w w':World}{b:Bool}:kD w w' (.bool b):=⟨λ_=>trivial,trivial,λ_ _ h=>h.elim⟩
def mO(l:List C):C:=.aj l.length λj=>l.getD j (.dead undef)
def LR{α β:Type}(l:List α)(d:α)(g:α->β):((List.range l.length).map λj=>g (l.getD j d))=l.map g:=by
  apply List.ext_getElem;· simp
  · intro i h1 h2
    simp at h1
    simp[h1]
def T9(l:List C):(mO l).er=.aj (l.map C.er):=by show X.aj _=_;rw[LR l _ C.er]
def Ua(l:List C):(mO l).val=.tuple (l.map C.val).toArray:=by show Value.tuple _=_;rw[LR l _ C.val]
def QF{w w':World}{l:List C}(h:∀c∈l,kD w w' c/\c.fV/\∀b k,¬c.fp b k):kD w w' (mO l):=by
  have hm:∀j,j<l.length->l.getD j (.dead undef)∈l:=λj hj=>by simp[List.getD,hj]
  refine⟨λZ=>⟨λj hj=>⟨(h _ (hm j hj)).2.1,(h _ (hm j hj)).1.1 Z⟩,λj hj b k hf=>((h _ (hm j hj)).2.2 b k hf).elim⟩,λj hj=>(h _ (hm j hj)).1.2.1,λb k hf=>?_⟩;obtain⟨j,hj,hf⟩:=hf;exact((h _ (hm j hj)).2.2 b k hf).elim
def abP{w w':World}{g:Nat}{t:TypeId}{l:List ByteArray}(hg:w.heap.size<=g)(hb:w'.heap[g]?=some (.cells (l.map Value.string).toArray t (0,0)))(hs:∀s∈l,s.size<=9223372036854775807):
    kD w w' (.row .own 1 (some (g,0,none)) l.length l.length λi _=>.str (l.getD i ByteArray.empty)):=by
  have hm:∀j,j<l.length->l.getD j ByteArray.empty∈l:=λj hj=>by simp[List.getD,hj]
  refine⟨λZ=>⟨dF _,λi j hi hj=>⟨g,0,rfl,?_,λh=>absurd rfl h⟩,λi j hi hj=>⟨trivial,trivial,trivial,hs _ (hm i hi)⟩,λ_=>.inr ⟨g,0,_,t,(0,0),rfl,hb,?_,λk _ _=>?_⟩,λi j hi hj b k hf=>hf.elim⟩,trivial,λb k hf=>?_⟩
  · obtain rfl:j=0:=by omega
    simp only[World.cell?,hb]
    simp[C.val,hi,Go.Value.oneCell']
  · simp
  · simp[World.frozen?,hb]
  · obtain⟨_,h|⟨i,j,_,_,h⟩⟩:=hf
    · obtain⟨o,h⟩:=h
      have hgb:=dA Prod.fst (iJ h)
      have hgb:g=b:=hgb;exact hgb▸hg
    · exact h.elim
def agh(l:List ByteArray)(g cap:Nat):(C.row .own 1 (some (g,0,none)) l.length cap λi _=>.str (l.getD i ByteArray.empty)).er=.row .own 1 (l.map λs=>[.str s]):=by show X.row _ _ _=_;congr 1;have:=LR l ByteArray.empty λs=>[X.str s];rw[<-this];rfl
def wu{c:C}{m:Md}{z:Nat}{xs:List (List X)}(h:c.er=.row m z xs):∃A len cap e,c=.row m z A len cap e/\len=xs.length/\∀i,i<len->xs[i]?=some ((List.range z).map λj=>(e i j).er):=by
  cases c with
  |row m' z' A len cap e=>simp only[C.er,X.row.injEq] at h;obtain⟨rfl,rfl,h⟩:=h;refine⟨A,len,cap,e,rfl,by rw[<-h];simp,λi hi=>?_⟩;rw[<-h];simp[hi]
  |_=>simp[C.er] at h
end M
set_option linter.unusedVariables false
set_option linter.unusedSimpArgs false
namespace M
open Go
def yK(s:ag):X:=.str ⟨s.toArray⟩
def L2(l:List ag):X:=.row .own 1 (l.map eS)
def Ig:List X->Option X
  |[.str s,.str c]=>if c.data.toList=[32]/\s.size<=9223372036854775807 then some (yK (gA s.data.toList)) else none
  |_=>none
def HX:List X->Option X
  |[.str s,.str c]=>if s.size<4294967281/\1<=c.size then some (L2 (Lib.split s.data.toList c.data.toList)) else none
  |_=>none
def E4:List X->Option X
  |[.str s,.str c]=>some (.bool (Lib.hasPrefix s.data.toList c.data.toList))
  |_=>none
def Er:List X->Option X
  |[.str s,.str c]=>if s.size<=9223372036854775807 then some (.aj [yK (Lib.trimPrefix s.data.toList c.data.toList),.bool (Lib.hasPrefix s.data.toList c.data.toList)]) else none
  |_=>none
def Gd:List X->Option X
  |[.str s]=>if s.size<=9223372036854775807 then some (match bT s.data.toList with
    |some n=>.aj [.int .i64 n,.bool true]
    |none=>.aj [.int .i64 0,.bool false]) else none
  |_=>none
def rU(f:aE):ag:=f.name++[58,32]++f.value++[13,10]
def ji(l:List aE):ag:=l.flatMap rU
def rW:List (List X)->Option (List aE)
  |[]=>some []
  |[.str a,.str b]::r=>(rW r).map λl=>⟨a.data.toList,b.data.toList⟩::l
  |_=>none
def EH:List X->Option X
  |[.row .af 2 rows]=>(match rW rows with
    |some l=>if (ji l).length<=140737488355328/\l.length<=140737488355328 then some (yK (ji l)) else none
    |none=>none)
  |_=>none
def Qw:∀l:List aE,rW (l.map aH)=some l
  |[]=>rfl
  |f::l=>by simp[rW,Qw l]
def count_nil(c:UInt8):Lib.count [] [c]=0:=by rw[Lib.count_one];rfl
def agS(c:UInt8):∀s:ag,Lib.split s [c]=cw c s:=by
  have key:∀(n:Nat) (s:ag),s.length<=n->Lib.splitK [c] 0 (Lib.count s [c]) s=cw c s:=by
    intro n;induction n with
    |zero=>intro s hs;obtain rfl:s=[]:=UR.1 (by omega);rw[count_nil];rfl
    |succ n ih=>
      intro s hs;cases s with
      |nil=>rw[count_nil];rfl
      |cons b s=>
        simp at hs;have FV:=ih s (by omega);by_cases hb:b=c
        · subst hb
          rw[Lib.count_cons_eq,pG]
          have hi:Lib.index (b::s) [b]=0:=Lib.index_first (i:=0) (q7 _) (by simp[Lib.occAt]) (λ_ h=>absurd h (Nat.not_lt_zero _))
          simp only[Lib.splitK,hi,cw]
          simp[FV]
        · rw[Lib.count_cons_ne _ _ _ hb]
          have hnext:Lib.index (b::s) [c]=if Lib.index s [c]=-1 then -1 else Lib.index s [c]+1:=by
            have h:=Lib.index_drop (s:=b::s) (sub:=[c]) (i:=1) (λj hj=>by
              obtain rfl:j=0:=by omega
              simp[Lib.occAt,List.isPrefixOf,ze hb]) (by simp)
            simp at h;exact h
          rw[cw,aC hb,<-FV]
          cases hk:Lib.count s [c] with
          |zero=>simp[Lib.splitK]
          |succ k=>
            simp only[Lib.splitK,hnext]
            by_cases h1:Lib.index s [c]=-1
            · simp[h1]
            · have h0:0<=Lib.index s [c]:=by
                have:-1<=Lib.index s [c]:=Lib.index_ge _ _
                omega
              have h2:¬Lib.index s [c]+1=-1:=by omega
              have h3:(Lib.index s [c]+1).toNat=(Lib.index s [c]).toNat+1:=by omega
              simp[h1,h2,h3]
  intro s;exact key s.length s (dF _)
def ew(c:UInt8):ag->Option (ag×ag)
  |[]=>none
  |b::s=>if b=c then some ([],s) else (ew c s).map λp=>(b::p.1,p.2)
end M
set_option linter.unusedVariables false
set_option linter.unusedSimpArgs false
namespace M
open Go
def eO{β:Type}(p:β->Bool)(l:List β):Nat:=(l.takeWhile λb=> !p b).length
def Si{β:Type}{f:ah->cG}(l:List β)(st:Nat->ah)(p:β->Bool)(E:Nat->ah){x:Nat}
    (h:∀i b,l[i]?=some b->i<l.length->f (st i)=if p b=true then some (.exit x,E i) else some (.normal,st (i+1)))
    (hend:f (st l.length)=some (.exit x,E l.length)):aJ f (st 0)=some (.exit x,E (eO p l)):=by
  suffices H:∀(r:List β) (i:Nat),l.drop i=r->i<=l.length->aJ f (st i)=some (.exit x,E (i+eO p r)) by have:=H l 0 rfl (q7 _);rwa [mQ] at this
  intro r;induction r with
  |nil=>
    intro i hr hi;have:i=l.length:=by have:=dA List.length hr;simp at this;omega
    subst this;rw[dS,hend];rfl
  |cons b r ih=>
    intro i hr hi;have hb:l[i]?=some b:=by have:=dA (λt:List β=>t[0]?) hr;simpa using this
    have hlt:i<l.length:=(aN.1 hb).1;have hd:l.drop (i+1)=r:=by have:=dA List.tail hr;simpa using this
    rw[dS,h i b hb hlt];unfold eO;by_cases hp:p b=true;· simp[hp,fG]
    · have:=ih (i+1) hd hlt
      simp only[hp]
      have e:i+1+eO p r=i+(eO p r+1):=by omega
      rw[e] at this
      simp[hp,fG,this,eO]
def Ik{β:Type}(p:β->Bool)(l:List β):eO p l<=l.length:=by unfold eO;exact(List.takeWhile_sublist _).length_le
def Ue{β:Type}(p:β->Bool):∀(l:List β) (j:Nat) (b:β),j<eO p l->l[j]?=some b->p b=false
  |[],j,b,h,_=>by simp[eO] at h
  |a::l,j,b,h,hb=>by
    unfold eO at h;rw[UG] at h;by_cases hp:p a=true;· simp[hp] at h
    · simp only[hp,NT,dB,cO] at h
      cases j with
      |zero=>simp at hb;subst hb;simpa using hp
      |succ j=>exact Ue p l j b (by unfold eO;omega) (by simpa using hb)
def Ud{β:Type}(p:β->Bool):∀(l:List β) (b:β),l[eO p l]?=some b->p b=true
  |[],b,h=>by simp at h
  |a::l,b,h=>by
    unfold eO at h;rw[UG] at h;by_cases hp:p a=true;· simp[hp] at h;subst h;exact hp
    · simp only[hp,NT,dB,cO,IU] at h
      exact Ud p l b h
def gj(c:UInt8)(f:ag->List ag)(s:ag)(i:Nat)(g:List ag×Nat)(b:Option UInt8):List ag×Nat:=match b with
  |some b=>if b=c then (g.1++f ((s.take i).drop g.2),i+1) else g
  |none=>(g.1++f ((s.take i).drop g.2),i+1)
def HV(c:UInt8):∀(cur rest:ag),(∀b∈cur,b≠c)->cw c (cur++rest)=match cw c rest with
    |w::ws=>(cur++w)::ws
    |[]=>[cur]
  |[],rest,_=>by
    cases h:cw c rest with
    |nil=>exact absurd h (HW c rest)
    |cons w ws=>simpa using h
  |a::cur,rest,h=>by rw[e9,cw,aC (h a (bE ..)),HV c cur rest λb hb=>h b (cE _ hb)];cases cw c rest<;>simp
def M1(c:UInt8)(cur:ag)(h:∀b∈cur,b≠c):cw c cur=[cur]:=by have:=HV c cur [] h;simpa [cw] using this
def M8:∀(p cur rest:ag),((p++(cur++rest)).take (p.length+cur.length)).drop p.length=cur
  |[],cur,rest=>by simp
  |a::p,cur,rest=>by have:=M8 p cur rest;simp only[cO,e9,show p.length+1+cur.length=p.length+cur.length+1 by omega,UH,List.drop_succ_cons];exact this
def QA(c:UInt8)(f:ag->List ag)(s:ag):foldI (gj c f s) 0 (s.map some++[none]) ([],0)=((cw c s).flatMap f,s.length+1):=by
  suffices H:∀(rest p cur:ag) (out:List ag),s=p++cur++rest->(∀b∈cur,b≠c)->foldI (gj c f s) (p.length+cur.length) (rest.map some++[none]) (out,p.length)=(out++(cw c (cur++rest)).flatMap f,s.length+1) by have:=H s [] [] [] rfl (by simp);simpa using this
  intro rest;induction rest with
  |nil=>intro p cur out hs hc;simp only[oa] at hs⊢;rw[M1 c cur hc];subst hs;have e1:=M8 p cur [];rw[oa] at e1;simp[foldI,gj,e1]
  |cons b rest ih=>
    intro p cur out hs hc;simp only[bg,e9,foldI];by_cases hb:b=c
    · subst hb
      have e1:(s.take (p.length+cur.length)).drop p.length=cur:=by subst hs;have:=M8 p cur (b::rest);rwa [<-mS] at this
      have:=ih (p++cur++[b]) [] (out++f cur) (by simp[hs]) (by simp)
      simp only[fK,cO,gS,jz] at this
      simp only[gj,dB,e1]
      rw[show p.length+cur.length+1=p.length+cur.length+(0+1)+0 by omega,this,HV b cur (b::rest) hc]
      simp[cw]
    · have:=ih p (cur++[b]) out (by simp[hs]) (by
        intro x hx;rcases dK.1 hx with hx|hx;· exact hc x hx
        · rw[fH.1 hx];exact hb)
      simp only[fK,cO,gS] at this
      simp only[gj,hb,eL]
      rw[show p.length+cur.length+1=p.length+(cur.length+(0+1)) by omega,this]
      simp
def Un(s:ag):iI s=(cw 44 s).flatMap λw=>if gA w≠[] then [gA w] else []:=by
  unfold iI;induction cw 44 s with
  |nil=>rfl
  |cons w l ih=>simp only[bg,List.filter_cons,jW,<-ih];by_cases h:gA w=[]<;>simp[h]
@[simp] def alY(l:List UInt8):l.map (λb:UInt8=>[X.int IntKind.u8 (b.toNat:Int)])=l.map eU:=rfl
@[simp] def aof(l:List UInt8):qX (l.map eU)=some l:=Nk l
def M7(c:UInt8):∀s:ag,((cw c s).map List.length).sum+(cw c s).length=s.length+1
  |[]=>rfl
  |b::s=>by
    have:=M7 c s;unfold cw;split;· simp;omega
    · cases h:cw c s with
      |nil=>exact absurd h (HW c s)
      |cons w ws=>rw[h] at this;simp at this⊢;omega
def TL(c:UInt8)(s:ag):(cw c s).length<=s.length+1:=by have:=M7 c s;omega
def yI(c:UInt8)(s:ag):∀w∈cw c s,w.length<=s.length:=by
  intro w hw;have h:=M7 c s
  have h1:w.length+1<=((cw c s).map List.length).sum+(cw c s).length:=by
    clear h;revert hw;generalize cw c s=l;intro hw;induction l with
    |nil=>cases hw
    |cons x l ih=>
      rcases ct.1 hw with rfl|hw;· simp;omega
      · have:=ih hw;simp;omega
  omega
def Sj(b:UInt8)(h:65<=b.toNat/\b.toNat<=90):(b+32).toNat=b.toNat+32:=by rw[UInt8.toNat_add];have:(32:UInt8).toNat=32:=rfl;omega
def Uq{n:Int}(h1:0<=n)(h2:n<256):IntKind.u8.wrap n=n:=Nu h1 h2
end M
namespace M
def EN{β γ:Type}(φ:β->List γ)(hφ:∀b,(φ b).length<=1)(l:List β)(i:Nat):((l.take i).flatMap φ).length<=i:=by
  induction l generalizing i with
  |nil=>simp
  |cons b l ih=>
    cases i with
    |zero=>simp
    |succ i=>have:=ih i;have:=hφ b;simp only[UH,jW,fK];omega
end M
namespace M
@[simp] def ak4(i:Nat):((i:Int)<0)=False:=by simp
end M
namespace M
def jO{α:Type}(f:α->α)(l:List α)(i:Nat):List α:=(l.take i).map f++l.drop i
@[simp] def am5{α:Type}(f:α->α)(l:List α)(i:Nat):(jO f l i).length=l.length:=by simp[jO];omega
def aec{α:Type}(f:α->α)(l:List α):jO f l 0=l:=by simp[jO]
def ad8{α:Type}(f:α->α)(l:List α):jO f l l.length=l.map f:=by simp[jO]
def ad9{α:Type}(f:α->α)(l:List α)(i:Nat)(h:i<l.length):(jO f l i)[i]?=some l[i]:=by
  unfold jO;rw[jb (by simp;omega)];have:i - ((l.take i).map f).length=0:=by simp;omega
  rw[this];simp[h]
def aea{α:Type}(f:α->α)(l:List α)(i:Nat)(h:i<l.length)(h':i<(jO f l i).length):(jO f l i)[i]=l[i]:=by have:=ad9 f l i h;rw[cj h'] at this;exact iJ this
def aeb{α:Type}(f:α->α)(l:List α)(i:Nat)(h:i<l.length):(jO f l i).set i (f l[i])=jO f l (i+1):=by
  unfold jO;rw[Iz _ _ (by simp;omega),rj h];have:i - ((l.take i).map f).length=0:=by simp;omega
  rw[this,qZ h];simp only[aQ,iK,bg,gQ,mS,e9,jz]
end M
namespace M
@[simp] def aee(m:Md):∀(i:Nat) (l:List (List X)),X.cv m (l.take i)=(X.cv m l).take i
  |0,l=>by simp[X.cv]
  |i+1,[]=>by simp[X.cv]
  |i+1,a::l=>by simp[X.cv,aee m i l]
@[simp] def aed(m:Md):∀(i:Nat) (l:List (List X)),X.cv m (l.drop i)=(X.cv m l).drop i
  |0,l=>by simp
  |i+1,[]=>by simp[X.cv]
  |i+1,a::l=>by simp[X.cv,aed m i l]
end M
set_option linter.unusedVariables false
set_option linter.unusedSimpArgs false
namespace M
open Go
abbrev fD:ag:=[99,111,110,116,101,110,116,45,108,101,110,103,116,104]
abbrev nH:ag:=[99,97,99,104,101,45,99,111,110,116,114,111,108]
abbrev jr:ag:=[118,97,114,121]
abbrev qC:ag:=[97,103,101]
def ajZ{α:Type}{w:α->Nat}{l:List α}{i:Nat}(h:i<l.length):w l[i]<=wL w l:=pn (cN h)
def yW{l:List ag}{a:ag}(h:a∈l):a.length<=wL wS l:=pn (w:=wS) h
def Io{l:List aE}{a:aE}(h:a∈l):a.name.length+a.value.length<=wL aF l:=pn (w:=aF) h
def fB(fs:List aE)(n:ag):Option (Nat×aE):=cY (λf=>decide (f.name=n)) 0 fs
def gd(o:Option (Nat×aE)):Int:=o.elim (-1) λx=>(x.1:Int)
def dr(fs:List aE)(n:ag):Option ag:=(fB fs n).map λx=>x.2.value
def I7{fs:List aE}{n:ag}{i:Nat}{f:aE}(h:fB fs n=some (i,f)):∃hi:i<fs.length,fs[i]=f/\f.name=n:=by obtain⟨_,h2,h3⟩:=wE h;simp at h2 h3;obtain⟨hi,e⟩:=aN.1 h2;exact⟨hi,e,h3⟩
def oA(fs:List aE)(n:ag):((dr fs n).getD []).length<=wL aF fs:=by
  unfold dr;cases h:fB fs n with
  |none=>simp
  |some x=>obtain⟨i,f⟩:=x;obtain⟨hi,rfl,_⟩:=I7 h;have:=Io (cN hi);simp;omega
def jH(fs:List aE)(x:aE×Nat):Bool:=eE x.1.name && fZ x.1.value && decide (gd (fB fs x.1.name)=x.2) && !decide (x.1.name=fD)
def jF(fs:List aE):Bool:=bu (jH fs) fs.zipIdx && decide ((fs.length:Int)<=8)
def sM(fs:List aE)(n v:ag):List aE:=match fB fs n with
  |some x=>fs.set x.1 ⟨x.2.name,v⟩
  |none=>fs++[⟨n,v⟩]
def TS{α:Type}(w:α->Nat):∀(l:List α) (i:Nat) (a:α) (h:i<l.length),((l.set i a).map w).sum+w l[i]=(l.map w).sum+w a
  |b::l,0,a,_=>by simp;omega
  |b::l,i+1,a,h=>by have:=TS w l i a (by simpa using h);simp at this⊢;omega
def S3(fs:List aE)(n v:ag):wL aF (sM fs n v)<=wL aF fs+n.length+v.length+1:=by
  unfold sM;cases h:fB fs n with
  |none=>simp[wL,aF];omega
  |some x=>obtain⟨i,f⟩:=x;obtain⟨hi,rfl,h3⟩:=I7 h;have:=TS aF fs i ⟨fs[i].name,v⟩ hi;simp only[wL,Oc];simp only[aF] at this⊢;omega
def afY(fs:List aE)(n v:ag):(sM fs n v).length<=fs.length+1:=by
  unfold sM;cases h:fB fs n with
  |none=>simp
  |some x=>simp
def fF(r:ck):Bool:=decide (100<=r.status/\r.status<=599) && jF r.fields && decide ((r.body.length:Int)<=120)
def oR(q:Rq):Bool:=decide (1<=q.method/\q.method<=4) && ij q.path && jF q.fields && decide ((q.body.length:Int)<=120)
def within(n:Int):Int:=max 0 (min n 1000000)
def plus(a b:Int):Int:=within (within a+within b)
def since(t now:Int):Int:=if now<=t then 0 else min (now - t) 1000000
def zA(fs:List aE):Int:=match dr fs qC with
  |some v=>match bT v with
    |some n=>n
    |none=>1000000
  |none=>0
def tM(fs:List aE)(t now:Int):Int:=plus (zA fs) (since t now)
def dO(fs:List aE):List ag:=(iI ((dr fs jr).getD [])).map cC
def nG(l:List ag):Bool:=bu eE l && decide ((l.length:Int)<=4)
def dx(o:Ob):Bool:=fF o.resp && ij o.path && decide (0<=o.t/\o.t<=1000000) && nG o.names && decide (o.names=dO o.resp.fields) && decide (o.values.length=o.names.length) && bu fZ o.values
def dW(b:Bn):Bool:=decide (0<=b.t/\b.t<=1000000) && (if b.kind=1\/b.kind=2 then ij b.a && decide (b.b=[]) else if b.kind=3 then eE b.a && fZ b.b else false)
def mw(b:Bn)(o:Ob):Bool:=decide (o.t<=b.t) && dW b && dx o && (if b.kind=1 then decide (o.path=b.a) else if b.kind=2 then b.a.isPrefixOf o.path else decide (dr o.resp.fields b.a=some b.b))
def gG(l:List Bn)(o:Ob):Bool:=l.any λb=>mw b o
def nM(w:Wr):Bool:=decide (0<=w.at_/\w.at_<=19)
def cS(d:bD):Bool:=bu nM d.pending && decide ((d.cells.length:Int)=20) && decide ((d.pending.length:Int)<=16)
def ku(l:List Kp)(i:Nat):Int:=if i=0 then 0 else (l[i - 1]?.map λk=>k.seq).getD 0
def oJ(S:Int)(l:List Kp)(x:Kp×Nat):Bool:=dx x.1.obj && decide (5<=x.1.at_/\x.1.at_<=19) && bu (λy=>decide ¬y.at_=x.1.at_) (l.take x.2) && decide (ku l x.2<x.1.seq) && decide (x.1.seq<S)
def lN(S:Int)(l:List Kp)(x:Kp×Nat):Bool:=dx x.1.obj && decide (5<=x.1.at_/\x.1.at_<=19) && decide (1<=x.1.seq/\x.1.seq<=S - 1) && decide (x.2=0\/ku l x.2<x.1.seq) && bu (λy=>decide ¬y.at_=x.1.at_) (l.take x.2)
def oN(S:Int)(l:List Kp):Bool:=bu (oJ S l) l.zipIdx
def B3(l:List Kp)(i:Nat)(h:i<l.length):ku l (i+1)=l[i].seq:=by simp[ku,h]
def adO(S:Int)(l:List Kp):bu (lN S l) l.zipIdx=oN S l:=by
  unfold oN;rw[NQ,ff,ff];have hm:∀x∈l.zipIdx,∃h:x.2<l.length,x.1=l[x.2]:=λx hx=>by obtain⟨i,hi,rfl⟩:=pL hx;simp at hi;exact⟨by simpa using hi,by simp⟩
  have hz:∀i (h:i<l.length),(l[i],i)∈l.zipIdx:=λi h=>by
    have:(l.zipIdx)[i]'(by simpa using h)=(l[i],i):=by simp
    rw[<-this];exact cN _
  constructor
  · intro h x hx
    have h1:=h x hx
    simp only[lN,oJ,av,aZ] at h1⊢
    obtain⟨⟨⟨⟨a,b⟩,c⟩,d⟩,e⟩:=h1
    refine⟨⟨⟨⟨a,b⟩,e⟩,?_⟩,by omega⟩
    rcases d with d|d
    · rw[d]
      have:ku l 0=0:=rfl
      omega
    · exact d
  · intro h
    have pos:∀i (hi:i<l.length),1<=l[i].seq:=by
      intro i;induction i with
      |zero=>intro hi;have h1:=h _ (hz 0 hi);simp only[oJ,av,aZ] at h1;have:ku l 0=0:=rfl;omega
      |succ i ih=>intro hi;have h1:=h _ (hz (i+1) hi);simp only[oJ,av,aZ] at h1;have h2:=B3 l i (by omega);have h3:=ih (by omega);omega
    intro x hx
    have h1:=h x hx
    obtain⟨hl,e⟩:=hm x hx
    have h2:=pos x.2 hl
    rw[<-e] at h2
    simp only[lN,oJ,av,aZ] at h1⊢
    obtain⟨⟨⟨⟨a,b⟩,c⟩,d⟩,f⟩:=h1
    exact⟨⟨⟨⟨a,b⟩,by omega⟩,.inr d⟩,c⟩
def Qo{β:Type}(p:β->Bool):∀(l:List β) (k:Nat),(cY p k l).isSome= !bu (λb=> !p b) l
  |[],_=>rfl
  |b::l,k=>by
    unfold cY bu;by_cases h:p b=true;· simp[h]
    · have:=Qo p l (k+1)
      unfold bu at this
      simp[h,this]
def tq{l:List Kp}{k:Kp}(h:k∈l):bP k.obj<=wL bO l:=pn (w:=bO) h
def Im{l:List Bn}{b:Bn}(h:b∈l):aW b<=wL aW l:=pn (w:=aW) h
def dI(s:Sh):Bool:=cS s.aI && decide ((s.aG.length:Int)<=5) && decide (5<=s.next/\s.next<=19) && decide (1<=s.seq/\s.seq<=100000) && bu dW s.aG && oN s.seq s.ai
end M
set_option linter.unusedVariables false
set_option linter.unusedSimpArgs false
namespace M
open Go
def gu(_:Int)(k:Int):Int:=k
def eR(_:ag)(k:Int):ag:=BJ k
def Su(_:Bool)(k:Int):Bool:=decide (k.tmod 3=0)
def bF{α:Type}(_:α):Nat:=1
def eC{α:Type}(mk:α->Int->α)(n:α->Nat):List α->Int->List α
  |[],_=>[]
  |a::l,k=>mk a k::eC mk n l (k+(n a:Nat))
def nL{α:Type}(n:α->Nat)(l:List α):Nat:=(l.map n).sum
@[simp] def aej{α:Type}(mk:α->Int->α)(n:α->Nat):∀(l:List α) (k:Int),(eC mk n l k).length=l.length
  |[],_=>rfl
  |a::l,k=>by simp[eC,aej mk n l]
def oK(a:aE)(k:Int):aE:=⟨eR a.name (k),eR a.value (k+1)⟩
def bC(a:aE):Nat:=2
def aep(a:Wr)(k:Int):Wr:=⟨gu a.at_ (k),eR a.text (k+1)⟩
def PB(a:Wr):Nat:=2
def aem(a:Kp)(k:Int):Kp:=⟨⟨eR a.obj.path (k),eC eR bF a.obj.names (k+1),eC eR bF a.obj.values (k+1+(nL bF a.obj.names:Nat)),⟨gu a.obj.resp.status (k+1+(nL bF a.obj.names:Nat)+(nL bF a.obj.values:Nat)),eC oK bC a.obj.resp.fields (k+1+(nL bF a.obj.names:Nat)+(nL bF a.obj.values:Nat)+1),eR a.obj.resp.body (k+1+(nL bF a.obj.names:Nat)+(nL bF a.obj.values:Nat)+1+(nL bC a.obj.resp.fields:Nat))⟩,gu a.obj.t (k+1+(nL bF a.obj.names:Nat)+(nL bF a.obj.values:Nat)+1+(nL bC a.obj.resp.fields:Nat)+1)⟩,gu a.at_ (k+1+(nL bF a.obj.names:Nat)+(nL bF a.obj.values:Nat)+1+(nL bC a.obj.resp.fields:Nat)+1+1),gu a.seq (k+1+(nL bF a.obj.names:Nat)+(nL bF a.obj.values:Nat)+1+(nL bC a.obj.resp.fields:Nat)+1+1+1)⟩
def JD(a:Kp):Nat:=6+nL bF a.obj.names+nL bF a.obj.values+nL bC a.obj.resp.fields
def aek(a:Bn)(k:Int):Bn:=⟨gu a.kind (k),eR a.a (k+1),eR a.b (k+1+1),gu a.t (k+1+1+1)⟩
def Pz(a:Bn):Nat:=4
def ael(a:Fl)(k:Int):Fl:=⟨⟨gu a.q.method (k),eR a.q.path (k+1),eC oK bC a.q.fields (k+1+1),eR a.q.body (k+1+1+(nL bC a.q.fields:Nat))⟩,eC gu bF a.who (k+1+1+(nL bC a.q.fields:Nat)+1),⟨eR a.old.path (k+1+1+(nL bC a.q.fields:Nat)+1+(nL bF a.who:Nat)),eC eR bF a.old.names (k+1+1+(nL bC a.q.fields:Nat)+1+(nL bF a.who:Nat)+1),eC eR bF a.old.values (k+1+1+(nL bC a.q.fields:Nat)+1+(nL bF a.who:Nat)+1+(nL bF a.old.names:Nat)),⟨gu a.old.resp.status (k+1+1+(nL bC a.q.fields:Nat)+1+(nL bF a.who:Nat)+1+(nL bF a.old.names:Nat)+(nL bF a.old.values:Nat)),eC oK bC a.old.resp.fields (k+1+1+(nL bC a.q.fields:Nat)+1+(nL bF a.who:Nat)+1+(nL bF a.old.names:Nat)+(nL bF a.old.values:Nat)+1),eR a.old.resp.body (k+1+1+(nL bC a.q.fields:Nat)+1+(nL bF a.who:Nat)+1+(nL bF a.old.names:Nat)+(nL bF a.old.values:Nat)+1+(nL bC a.old.resp.fields:Nat))⟩,gu a.old.t (k+1+1+(nL bC a.q.fields:Nat)+1+(nL bF a.who:Nat)+1+(nL bF a.old.names:Nat)+(nL bF a.old.values:Nat)+1+(nL bC a.old.resp.fields:Nat)+1)⟩,Su a.E3 (k+1+1+(nL bC a.q.fields:Nat)+1+(nL bF a.who:Nat)+1+(nL bF a.old.names:Nat)+(nL bF a.old.values:Nat)+1+(nL bC a.old.resp.fields:Nat)+1+1)⟩
def JC(a:Fl):Nat:=8+nL bC a.q.fields+nL bF a.who+nL bF a.old.names+nL bF a.old.values+nL bC a.old.resp.fields
def aeo(a:Se)(k:Int):Se:=⟨⟨gu a.q.method (k),eR a.q.path (k+1),eC oK bC a.q.fields (k+1+1),eR a.q.body (k+1+1+(nL bC a.q.fields:Nat))⟩,⟨gu a.resp.status (k+1+1+(nL bC a.q.fields:Nat)+1),eC oK bC a.resp.fields (k+1+1+(nL bC a.q.fields:Nat)+1+1),eR a.resp.body (k+1+1+(nL bC a.q.fields:Nat)+1+1+(nL bC a.resp.fields:Nat))⟩,gu a.t (k+1+1+(nL bC a.q.fields:Nat)+1+1+(nL bC a.resp.fields:Nat)+1)⟩
def PA(a:Se):Nat:=6+nL bC a.q.fields+nL bC a.resp.fields
def aen(a:Rp)(k:Int):Rp:=⟨gu a.client (k),⟨gu a.q.method (k+1),eR a.q.path (k+1+1),eC oK bC a.q.fields (k+1+1+1),eR a.q.body (k+1+1+1+(nL bC a.q.fields:Nat))⟩,⟨gu a.resp.status (k+1+1+1+(nL bC a.q.fields:Nat)+1),eC oK bC a.resp.fields (k+1+1+1+(nL bC a.q.fields:Nat)+1+1),eR a.resp.body (k+1+1+1+(nL bC a.q.fields:Nat)+1+1+(nL bC a.resp.fields:Nat))⟩,gu a.kind (k+1+1+1+(nL bC a.q.fields:Nat)+1+1+(nL bC a.resp.fields:Nat)+1),gu a.t (k+1+1+1+(nL bC a.q.fields:Nat)+1+1+(nL bC a.resp.fields:Nat)+1+1),⟨eR a.obj.path (k+1+1+1+(nL bC a.q.fields:Nat)+1+1+(nL bC a.resp.fields:Nat)+1+1+1),eC eR bF a.obj.names (k+1+1+1+(nL bC a.q.fields:Nat)+1+1+(nL bC a.resp.fields:Nat)+1+1+1+1),eC eR bF a.obj.values (k+1+1+1+(nL bC a.q.fields:Nat)+1+1+(nL bC a.resp.fields:Nat)+1+1+1+1+(nL bF a.obj.names:Nat)),⟨gu a.obj.resp.status (k+1+1+1+(nL bC a.q.fields:Nat)+1+1+(nL bC a.resp.fields:Nat)+1+1+1+1+(nL bF a.obj.names:Nat)+(nL bF a.obj.values:Nat)),eC oK bC a.obj.resp.fields (k+1+1+1+(nL bC a.q.fields:Nat)+1+1+(nL bC a.resp.fields:Nat)+1+1+1+1+(nL bF a.obj.names:Nat)+(nL bF a.obj.values:Nat)+1),eR a.obj.resp.body (k+1+1+1+(nL bC a.q.fields:Nat)+1+1+(nL bC a.resp.fields:Nat)+1+1+1+1+(nL bF a.obj.names:Nat)+(nL bF a.obj.values:Nat)+1+(nL bC a.obj.resp.fields:Nat))⟩,gu a.obj.t (k+1+1+1+(nL bC a.q.fields:Nat)+1+1+(nL bC a.resp.fields:Nat)+1+1+1+1+(nL bF a.obj.names:Nat)+(nL bF a.obj.values:Nat)+1+(nL bC a.obj.resp.fields:Nat)+1)⟩,gu a.aG (k+1+1+1+(nL bC a.q.fields:Nat)+1+1+(nL bC a.resp.fields:Nat)+1+1+1+1+(nL bF a.obj.names:Nat)+(nL bF a.obj.values:Nat)+1+(nL bC a.obj.resp.fields:Nat)+1+1)⟩
def Yn(a:Rp):Nat:=13+nL bC a.q.fields+nL bC a.resp.fields+nL bF a.obj.names+nL bF a.obj.values+nL bC a.obj.resp.fields
def Dl(a:Rq)(k:Int):Rq:=⟨a.method,a.path,eC oK bC a.fields (k),a.body⟩
@[simp] def an8(a:Rq)(k:Int):(Dl a k).method=a.method:=rfl
@[simp] def an9(a:Rq)(k:Int):(Dl a k).path=a.path:=rfl
@[simp] def an7(a:Rq)(k:Int):(Dl a k).body=a.body:=rfl
def Nd(a:Rq):Nat:=nL bC a.fields
def yM(a:ck)(k:Int):ck:=⟨a.status,eC oK bC a.fields (k),a.body⟩
@[simp] def aob(a:ck)(k:Int):(yM a k).status=a.status:=rfl
@[simp] def aoa(a:ck)(k:Int):(yM a k).body=a.body:=rfl
def aha(a:ck):Nat:=nL bC a.fields
def Nb(a:Ob)(k:Int):Ob:=⟨a.path,eC eR bF a.names (k),eC eR bF a.values (k+(nL bF a.names:Nat)),yM a.resp (k+(nL bF a.names:Nat)+(nL bF a.values:Nat)),a.t⟩
@[simp] def an4(a:Ob)(k:Int):(Nb a k).path=a.path:=rfl
@[simp] def an5(a:Ob)(k:Int):(Nb a k).resp=yM a.resp (k+(nL bF a.names:Nat)+(nL bF a.values:Nat)):=rfl
@[simp] def an6(a:Ob)(k:Int):(Nb a k).t=a.t:=rfl
def T3(a:bD)(k:Int):bD:=⟨eC eR bF a.cells (k),eC aep PB a.pending (k+(nL bF a.cells:Nat))⟩
def Nc(a:bD):Nat:=nL bF a.cells+nL PB a.pending
def Dm(a:Sh)(k:Int):Sh:=⟨T3 a.aI (k),eC aem JD a.ai (k+(Nc a.aI:Nat)),eC aek Pz a.aG (k+(Nc a.aI:Nat)+(nL JD a.ai:Nat)),a.next,a.seq⟩
@[simp] def aoc(a:Sh)(k:Int):(Dm a k).aI=T3 a.aI (k):=rfl
@[simp] def aod(a:Sh)(k:Int):(Dm a k).next=a.next:=rfl
@[simp] def aoe(a:Sh)(k:Int):(Dm a k).seq=a.seq:=rfl
def Nf(a:Sh):Nat:=Nc a.aI+nL JD a.ai+nL Pz a.aG
def T0(a:Ca)(k:Int):Ca:=⟨Dm a.jx (k),eC ael JC a.ni (k+(Nf a.jx:Nat)),a.now,eC aeo PA a.seen (k+(Nf a.jx:Nat)+(nL JC a.ni:Nat)),eC aen Yn a.sent (k+(Nf a.jx:Nat)+(nL JC a.ni:Nat)+(nL PA a.seen:Nat))⟩
@[simp] def anX(a:Ca)(k:Int):(T0 a k).jx=Dm a.jx (k):=rfl
@[simp] def anW(a:Ca)(k:Int):(T0 a k).now=a.now:=rfl
def yL(a:De)(k:Int):De:=⟨a.kind,a.client,Dl a.q (k),a.a,yM a.resp (k+(Nd a.q:Nat)),a.rE,eC Su bF a.keep (k+(Nd a.q:Nat)+(aha a.resp:Nat))⟩
@[simp] def an1(a:De)(k:Int):(yL a k).kind=a.kind:=rfl
@[simp] def an0(a:De)(k:Int):(yL a k).client=a.client:=rfl
@[simp] def an2(a:De)(k:Int):(yL a k).q=Dl a.q (k):=rfl
@[simp] def anY(a:De)(k:Int):(yL a k).a=a.a:=rfl
@[simp] def an3(a:De)(k:Int):(yL a k).resp=yM a.resp (k+(Nd a.q:Nat)):=rfl
@[simp] def anZ(a:De)(k:Int):(yL a k).rE=a.rE:=rfl
end M
set_option linter.unusedVariables false
set_option linter.unusedSimpArgs false
namespace M
open Go Go.RowKit
def oh.cell[B:Bs]{w:World}(h:oh w){b k:Nat}{v:Value}(hc:B.W0.cell? ⟨b,k,none⟩=some v):w.cell? ⟨b,k,none⟩=some v:=by
  have hb:b<B.W0.heap.size:=by
    rcases gB b B.W0.heap.size with h|h;· exact h
    · simp[World.cell?,kC h] at hc
  have e:=h b hb;simpa [World.cell?,e] using hc
def WR(w:World):Below w.heap.size w w.drew:=(Below.refl _ _).drew
def Ih{cs:List C}{s c:ByteArray}(h:cs.map C.er=[.str s,.str c]):cs=[.str s,.str c]:=by obtain⟨a,r,rfl,h1,h2⟩:=map_cons h;obtain⟨b,r',rfl,h3,h4⟩:=map_cons h2;obtain rfl:=map_nil h4;rw[kH h1,kH h3]
def afa{cs:List C}{s:ByteArray}(h:cs.map C.er=[.str s]):cs=[.str s]:=by obtain⟨a,r,rfl,h1,h2⟩:=map_cons h;obtain rfl:=map_nil h2;rw[kH h1]
def ajM[Bs]{P:Program}{f0:FuncId}(hc:∀(s:ByteArray) (c:UInt8),c.toNat<128->∀w,s.size<=9223372036854775807->
    Calls P f0 #[.string s,.string ⟨#[c]⟩] w λe w'=>e=.returned (.string ⟨(Lib.trimB s.data.toList c).toArray⟩)/\(w'=w\/w'=w.drew)):(eN f0 Ig).Sound P:=
  xB λxs r hg w zl zb cs hx hA hs=>by
    unfold Ig at hg;split at hg
    · rename_i s c
      split at hg
      · rename_i hh
        cases hg
        obtain rfl:=Ih hx
        have e:c=⟨#[32]⟩:=by have:=dA List.toArray hh.1;simp at this;cases c;simp at this;rw[this]
        subst e
        refine(hc s 32 (by decide) w hh.2).mono λe w' ⟨he,hw⟩=>⟨.str ⟨(gA s.data.toList).toArray⟩,he,rfl,?_,J4 ?_⟩
        · rcases hw with rfl|rfl
          · exact Below.refl _ _
          · exact WR _
        · have:=T7 s.data.toList
          have h2:=hh.2
          simp only[ByteArray.size] at h2⊢
          simp at this⊢
          omega
      · cases hg
    · cases hg
def agP[B:Bs]{P:Program}{f0:FuncId}{g1:Nat}{t9:TypeId}(hm:∃m,B.W0.cell? ⟨g1,0,none⟩=some (.int .i64 m))(hc:∀(s sep:ByteArray) (m:Int) (w:World),s.size<4294967281->w.cell? ⟨g1,0,none⟩=some (.int .i64 m)->1<=sep.size->
    Calls P f0 #[.string s,.string sep] w λe w'=>e=.returned (.slice (some ⟨w.heap.size,0,none⟩) (Lib.countB s sep+1) (Lib.countB s sep+1))/\w'=w.alloc (.cells ((Lib.splitB sep 0 (Lib.countB s sep) s).map Value.string).toArray t9)):(eN f0 HX).Sound P:=
  xB λxs r hg w zl zb cs hx hA hs=>by
    unfold HX at hg;split at hg
    · rename_i s c
      split at hg
      · rename_i hh
        cases hg
        obtain rfl:=Ih hx
        obtain⟨m,hm⟩:=hm
        have hlen:=Lib.splitB_all c hh.2 0 _ s rfl
        have Ri:=Lib.splitB_data c 0 (Lib.countB s c) s
        refine(hc s c m w hh.1 (hs.cell hm) hh.2).mono λe w' ⟨he,hw⟩=>?_
        subst hw
        refine⟨.row .own 1 (some (w.heap.size,0,none)) (Lib.splitB c 0 (Lib.countB s c) s).length (Lib.splitB c 0 (Lib.countB s c) s).length λi _=>.str ((Lib.splitB c 0 (Lib.countB s c) s).getD i ByteArray.empty),?_,?_,?_,?_⟩
        · rw[he,hlen];rfl
        · rw[agh]
          unfold L2
          congr 1
          have:Lib.split s.data.toList c.data.toList=(Lib.splitB c 0 (Lib.countB s c) s).map (·.data.toList):=Ri.symm
          rw[this,cP]
          refine cz λx _=>?_
          simp
        · exact(Below.refl _ _).alloc (dF _) _
        · refine abP (dF _) (t:=t9) ?_ λx hx=>?_
          · show (w.heap.push _)[w.heap.size]?=_
            simp
          · have h1:x.data.toList∈Lib.splitK c.data.toList 0 (Lib.countB s c) s.data.toList:=by rw[<-Ri];exact kA hx
            have h2:∀(k:Nat) (l:List UInt8),∀y∈Lib.splitK c.data.toList 0 k l,y.length<=l.length:=by
              intro k;induction k with
              |zero=>intro l y hy;simp[Lib.splitK] at hy;rw[hy];exact dF _
              |succ k ih=>
                intro l y hy;unfold Lib.splitK at hy;split at hy;· rw[fH.1 hy];exact dF _
                · rcases ct.1 hy with rfl|hy
                  · simp
                    omega
                  · have:=ih _ _ hy;simp at this;omega
            have h3:=h2 _ _ _ h1
            have h4:=hh.1
            have e1:s.size=s.data.toList.length:=Lib.size_eq _
            have e2:x.size=x.data.toList.length:=Lib.size_eq _
            omega
      · cases hg
    · cases hg
def aeG[B:Bs]{P:Program}{f0:FuncId}(hc:∀(s:ByteArray) (w:World),oh w->s.size<=9223372036854775807->
    Calls P f0 #[.string s] w λe w'=>e=.returned (.tuple #[.int .i64 (((bT s.data.toList).getD 0:Nat):Int),.bool (bT s.data.toList).isSome])/\Below w.heap.size w w'):(eN f0 Gd).Sound P:=
  xB λxs r hg w zl zb cs hx hA hs=>by
    unfold Gd at hg;split at hg
    · rename_i s
      split at hg
      · rename_i hh
        cases hg
        obtain rfl:=afa hx
        refine(hc s w hs hh).mono λe w' ⟨he,hw⟩=>?_
        refine⟨mO [.int .i64 (((bT s.data.toList).getD 0:Nat):Int),.bool (bT s.data.toList).isSome],?_,?_,hw,QF λx hx=>?_⟩
        · rw[he,Ua];rfl
        · rw[T9];cases bT s.data.toList<;>rfl
        · simp only[ct,y9,zi] at hx
          rcases hx with rfl|rfl
          · exact⟨abO,trivial,λ_ _ h=>h⟩
          · exact⟨J3,trivial,λ_ _ h=>h⟩
      · cases hg
    · cases hg
def adx[B:Bs]{P:Program}{f0:FuncId}(htab:Lib.TabIs P B.W0 "internal/strconv.uint64pow10" .u64 Lib.pow10Tab) (hc:∀(n:Int),-9223372036854775808<=n->n<=9223372036854775807->∀w,Lib.TabIs P w "internal/strconv.uint64pow10" .u64 Lib.pow10Tab->
    Calls P f0 #[.int .i64 n] w λe w'=>e=.returned (.string ⟨(Lib.itoa n).toArray⟩)/\∃k os,w'=Sort.grow (w.drewN k) os):(kW f0 Bw).Sound P:=
  abW λxs r h w hw=>by
    unfold Bw at h;split at h
    · rename_i n
      split at h
      · rename_i Rg
        cases h
        exact hc n Rg.1 Rg.2 w (TabIs.same htab hw)
      · cases h
    · cases h
end M
set_option linter.unusedVariables false
namespace Go.Proofs
open Go.RowKit
def ag4{P:Program}{w w':World}{n:String}{k:IntKind}{zs:List Int}(h:Lib.TabIs P w n k zs)(hw:Below w.heap.size w w'):Lib.TabIs P w' n k zs:=by
  unfold Lib.TabIs World.var? at h⊢;cases hg:P.globalNamed n with
  |none=>rw[hg] at h;cases h
  |some g=>
    rw[hg] at h;simp only[ja] at h⊢
    have hlt:g<w.heap.size:=by
      rcases gB g w.heap.size with h'|h';· exact h'
      · rw[kC h'] at h;cases h
    rw[hw.block g hlt];exact h
def Uh[B:M.Bs]{P:Program}{w:World}{n:String}{cs:Array Value}(h:B.W0.var? P n=some cs)(hw:M.oh w):w.var? P n=some cs:=by
  unfold World.var? at h⊢;cases hg:P.globalNamed n with
  |none=>rw[hg] at h;cases h
  |some g=>
    rw[hg] at h;simp only[ja] at h⊢
    have hlt:g<B.W0.heap.size:=by
      rcases gB g B.W0.heap.size with h'|h';· exact h'
      · rw[kC h'] at h;cases h
    rw[hw g hlt];exact h
def abX(w:World)(k:Nat)(os:Array Obj):Below w.heap.size w (Sort.grow (w.drewN k) os):=
  ⟨rfl,rfl,rfl,by simp[Sort.grow,World.drewN],λb hb=>by show (w.heap++os)[b]?=w.heap[b]?;exact NY hb⟩
def oM(v:Int)(l:List UInt8):Bool:=decide (0<=v/\v<=1000000/\Lib.itoa v=l)
def xC(v:Int)(l:List UInt8):Int:=if oM v l=true then v else 0
def aeE{P:Program}{f a:FuncId}{s:ByteArray}{w:World}(hmax:s.size<=9223372036854775807)
    (acR:7<s.size->Calls P f #[.string s] w λe w'=>e=.returned (.tuple #[.int .i64 0,.bool false])/\w'=w)
    (hok:¬7<s.size->∀v,Lib.atoiAll s.data.toList=.ok v->Calls P f #[.string s] w λe w'=>e=.returned (.tuple #[.int .i64 (xC v s.data.toList),.bool (oM v s.data.toList)])/\Below w.heap.size w w')
    (acm:¬7<s.size->(∀v,Lib.atoiAll s.data.toList≠.ok v)->Calls P f #[.string s] w λe w'=>e=.returned (.tuple #[.int .i64 0,.bool false])/\Below w.heap.size w w'):
    Calls P f #[.string s] w λe w'=>e=.returned (.tuple #[.int .i64 (((M.bT s.data.toList).getD 0:Nat):Int),.bool (M.bT s.data.toList).isSome])/\Below w.heap.size w w':=by
  have hl:s.size=s.data.toList.length:=Lib.size_eq _;by_cases h:7<s.size
  · rw[M.SE _ (by omega)]
    exact(acR h).mono λe w' ⟨he,hw⟩=>⟨he,hw▸Below.refl _ _⟩
  by_cases hv:∃v,Lib.atoiAll s.data.toList=.ok v
  · obtain⟨v,hv⟩:=hv
    rw[<-M.aeH _ _ hv]
    refine(hok h v hv).mono λe w' ⟨he,hw⟩=>⟨?_,hw⟩
    rw[he]
    by_cases hb:oM v s.data.toList=true
    · have hb':=hb
      unfold oM at hb'
      rw[aZ] at hb'
      rw[xC,aA hb,hb,aA hb']
      simp;omega
    · have hb':=hb
      unfold oM at hb'
      rw[aZ] at hb'
      rw[xC,aC hb,aC hb']
      simp[hb]
  · have eY:∀v,Lib.atoiAll s.data.toList≠.ok v:=λv e=>hv ⟨v,e⟩
    rw[M.aeJ _ eY]
    exact acm h eY
def anL{H:Type}{enc:TypeId×Value->H}{a:Assume}{C:Checked}{os:Os}{f:FuncId}{fn:Func}{s:ChangeSpec}{conds:List PathCond}{apart fresh handsOn again:Bool}{X:World->Array Value->Prop}
    (hX:∀(w w':World) (args:Array Value),w.heap=w'.heap->X w args->X w' args)
    (own:ownKnob C.prog.godebug=none)(started:os.Started)(noInit:C.prog.inits.idxOf? f=none)(hfn:C.prog.funcs[f]?=some fn)
    (witness:∃(w:World) (tape:Tape) (i:Input),w.os=os/\(w.forCall tape i).Shaped C.prog/\i.vars=[]/\Input.okWide C.prog (w.forCall tape i) .any w.heap.size f i/\
      ((s.pre enc C.prog fn conds apart (w.forCall tape i).memory i.args/\X (w.forCall tape i).memory i.args)/\sizedMet enc C.prog fn (OpenSpec.ofChange s) apart (w.forCall tape i).memory i.args)/\a.holds C.prog (lone (Frame.enter C.prog f i.args .normal) [] (w.forCall tape i)))
    (contract:∀(W:World) (base:Nat) (args:Array Value) (ds gs:List (DataW H)) (before:List MemPlace),
      (∀(j:Nat) t v,fn.params[j]?=some t->args[j]?=some v->Value.okWide C.prog W .any base t v)->
      DataW.Whole enc C.prog fn.params.toList s.vars apart W args.toList ds gs before->
      conds.all (PathCond.test C.prog ⟨fn.params.toList,ds,s.plain.varTypes C.prog,gs⟩)=true->
      (DataW.weightsEach C.prog (fn.params.toList++s.plain.varTypes C.prog) (ds++gs)).all (· <=reachBytes)=true->X W args->
      W.ShapedOpen C.prog->
      a.holds C.prog (lone (Frame.enter C.prog f args .normal) [] W)->
      Calls C.prog f args W λe W'=>∃v,e=.returned v/\s.post enc C.prog fn apart fresh handsOn again W args v W'):
    ReturnsInHanded a C os f .any (λw args=>(s.pre enc C.prog fn conds apart w args/\X w args)/\sizedMet enc C.prog fn (OpenSpec.ofChange s) apart w args) (s.post enc C.prog fn apart fresh handsOn again):=by refine returnsInHanded_of_calls own started noInit witness ?_;intro w tape i _ hsh _ hok hpre hholds;obtain⟨_,_,_,fn',acE,_,_,_,_,hval⟩:=hok;have e:fn'=fn:=iJ (acE.symm.trans hfn);subst e;obtain⟨⟨⟨ds,gs,before,hw,hc⟩,hx⟩,hz⟩:=hpre;have hw':=DataW.Whole.of_heap (w':=w.forCall tape i) (by rfl) hw;refine(contract (w.forCall tape i) w.heap.size i.args ds gs before hval hw' hc (hz.weights hw) (hX _ _ _ (by rfl) hx) hsh hholds).mono λe W' ⟨v,he,hp⟩=>?_;subst he;exact ChangeSpec.post_blind hp
end Go.Proofs
set_option linter.unusedVariables false
set_option linter.unusedSimpArgs false
namespace M
open Go Go.RowKit
def ajN(s c:ag):(Lib.trimPrefix s c).length<=s.length:=by
  unfold Lib.trimPrefix;split;· simp
  · exact dF _
def Yu[B:Bs]{P:Program}{f0:FuncId}(hc:∀(s p:ByteArray) (w:World),
    Calls P f0 #[.string s,.string p] w λe w'=>e=.returned (.tuple #[.string ⟨(Lib.trimPrefix s.data.toList p.data.toList).toArray⟩,.bool (Lib.hasPrefix s.data.toList p.data.toList)])/\w'=w):(eN f0 Er).Sound P:=
  xB λxs r hg w zl zb cs hx hA hs=>by
    unfold Er at hg;split at hg
    · rename_i s c
      split at hg
      · rename_i hh
        cases hg
        obtain rfl:=Ih hx
        have hl:=ajN s.data.toList c.data.toList
        refine(hc s c w).mono λe w' ⟨he,hw⟩=>?_
        subst hw
        refine⟨mO [.str ⟨(Lib.trimPrefix s.data.toList c.data.toList).toArray⟩,.bool (Lib.hasPrefix s.data.toList c.data.toList)],?_,?_,Below.refl _ _,QF λx hx=>?_⟩
        · rw[he,Ua];rfl
        · rw[T9];rfl
        · have e1:s.size=s.data.toList.length:=Lib.size_eq _
          simp only[ct,y9,zi] at hx
          rcases hx with rfl|rfl
          · exact⟨J4 (by simp only[ByteArray.size,pE];omega),trivial,λ_ _ h=>h⟩
          · exact⟨J3,trivial,λ_ _ h=>h⟩
      · cases hg
    · cases hg
end M
set_option linter.unusedVariables false
set_option linter.unusedSimpArgs false
namespace M
open Go Go.RowKit
def acj[B:Bs]{P:Program}{f0:FuncId}(hc:∀(s p:ByteArray) (w:World),
    Calls P f0 #[.string s,.string p] w λe w'=>e=.returned (.bool (Lib.hasPrefix s.data.toList p.data.toList))/\w'=w):(eN f0 E4).Sound P:=
  xB λxs r hg w zl zb cs hx hA hs=>by
    unfold E4 at hg;split at hg
    · rename_i s c
      cases hg
      obtain rfl:=Ih hx
      refine(hc s c w).mono λe w' ⟨he,hw⟩=>?_
      subst hw
      exact⟨.bool (Lib.hasPrefix s.data.toList c.data.toList),he,rfl,Below.refl _ _,J3⟩
    · cases hg
end M
set_option linter.unusedVariables false
set_option linter.unusedSimpArgs false
namespace M
open Go Go.RowKit
def jI(l:List (ByteArray×ByteArray)):List UInt8:=l.flatMap λf=>f.1.data.toList++[58,32]++f.2.data.toList++[13,10]
def QI{l:List (ByteArray×ByteArray)}{k:Nat}(h:k<l.length):jI (l.take (k+1))=jI (l.take k)++(l[k].1.data.toList++[58,32]++l[k].2.data.toList++[13,10]):=by unfold jI;rw[qZ h,N0];simp only[jW,N1,oa]
def abS{l:List (ByteArray×ByteArray)}{k:Nat}(h:k<l.length):(jI (l.take k)).length+l[k].1.size+2+l[k].2.size+2<=(jI l).length:=by
  have e:jI l=jI (l.take (k+1))++jI (l.drop (k+1)):=by unfold jI;rw[<-N0,NL]
  rw[e,QI h];simp only[fK,cO,gS];have h1:l[k].1.data.toList.length=l[k].1.size:=by rw[DA];rfl
  have h2:l[k].2.data.toList.length=l[k].2.size:=by rw[DA];rfl
  omega
def EP(f:aE):ByteArray×ByteArray:=(⟨f.name.toArray⟩,⟨f.value.toArray⟩)
def QH(l:List aE):jI (l.map EP)=ji l:=by unfold jI ji;rw[List.flatMap_map];rfl
def Y9:∀{rows:List (List X)} {l:List aE},rW rows=some l->rows=l.map aH:=by
  intro rows;induction rows with
  |nil=>intro l h;simp[rW] at h;subst h;rfl
  |cons r rows ih=>
    intro l h;match r,h with
    |[.str a,.str b],h=>
      simp only[rW] at h;cases hs:rW rows with
      |none=>rw[hs] at h;simp at h
      |some l'=>rw[hs] at h;simp at h;subst h;rw[ih hs];simp
def Y0[B:Bs]{P:Program}{f0:FuncId}
    (hc:∀(A:Option Addr) (cap:Nat) (fs:List (ByteArray×ByteArray)) (w:World),
      (∀i f,fs[i]?=some f->∃g o,A=some ⟨g,o,none⟩/\g<w.heap.size/\w.cell? ⟨g,o+i*2,none⟩=some (.string f.1)/\w.cell? ⟨g,o+i*2+1,none⟩=some (.string f.2))->
      (jI fs).length<=140737488355328->fs.length<=140737488355328->
      Calls P f0 #[.slice A fs.length cap] w λe w'=>e=.returned (.string ⟨(jI fs).toArray⟩)/\Below w.heap.size w w'):(eN f0 EH).Sound P:=
  xB λxs r hg w zl zb cs hx hA hs=>by
    unfold EH at hg;split at hg
    · rename_i rows
      split at hg
      · rename_i l hl
        split at hg
        · rename_i hh
          cases hg
          obtain⟨c1,r1,rfl,h1,h2⟩:=map_cons hx
          obtain rfl:=map_nil h2
          obtain⟨A,len,cap,e,rfl,hlen,hrow⟩:=wu h1
          have hrows:=Y9 hl
          have ug:len=l.length:=by rw[hlen,hrows];simp
          have ok:=hA.ok _ (bE ..)
          obtain⟨k1,k2,k3,k4,k5⟩:=ok
          have hcell:∀i f,(l.map EP)[i]?=some f->∃g o,(A.map λq=>(⟨q.1,q.2.1,q.2.2⟩:Addr))=some ⟨g,o,none⟩/\g<w.heap.size/\w.cell? ⟨g,o+i*2,none⟩=some (.string f.1)/\w.cell? ⟨g,o+i*2+1,none⟩=some (.string f.2):=by
            intro i f hi;have hi2:i<l.length:=by have:=aN.1 hi;simpa using this.1
            obtain⟨g,o,lD,h0,_⟩:=k2 i 0 (by omega) (by omega);obtain⟨g',o',Q2,h0',_⟩:=k2 i 1 (by omega) (by omega);rw[lD] at Q2;cases Q2;have hr:=hrow i (by omega);rw[hrows,de,cj hi2] at hr;rw[de,cj hi2] at hi;simp[mP,EP] at hr hi;obtain⟨r1,r2⟩:=hr;have q1:=kH r1.symm;have q2:=kH r2.symm;rw[q1] at h0;rw[q2] at h0';subst hi;refine⟨g,o,by rw[lD];rfl,?_,by simpa [C.val] using h0,by simpa [C.val] using h0'⟩;rcases gB g w.heap.size with h|h;· exact h
            · simp[World.cell?,kC h] at h0
          have key:=hc (A.map λq=>(⟨q.1,q.2.1,q.2.2⟩:Addr)) cap (l.map EP) w hcell (by rw[QH];exact hh.1) (by simpa using hh.2)
          rw[QH,dV,<-ug] at key
          refine Calls.mono key λe w' ⟨he,hb⟩=>?_
          exact⟨.str ⟨(ji l).toArray⟩,he,rfl,hb,J4 (by have:=hh.1;simp only[ByteArray.size,pE];omega)⟩
        · cases hg
      · cases hg
    · cases hg
end M
set_option linter.unusedVariables false
set_option linter.unusedSimpArgs false
namespace M
open Go
def eu{β γ ε:Type}(go:Nat->γ->β->γ ⊕ ε):Nat->List β->γ->γ ⊕ ε
  |_,[],g=>.inl g
  |i,b::l,g=>match go i g b with
    |.inl g'=>eu go (i+1) l g'
    |.inr e=>.inr e
def Ls{xt:Nat}{β γ ε:Type}{f:ah->cG}(l:List β)(st:Nat->γ->ah)(go:Nat->γ->β->γ ⊕ ε)(E:γ->ah)(R:ε->Ex×ah)(Inv:Nat->γ->Prop)(g:γ)(h0:Inv 0 g)
    (h:∀i b g,l[i]?=some b->i<l.length->Inv i g->f (st i g)=(match go i g b with|.inl g'=>some (.normal,st (i+1) g')|.inr e=>lv (R e)))
    (hI:∀i b g g',l[i]?=some b->Inv i g->go i g b=.inl g'->Inv (i+1) g')
    (hend:∀g,Inv l.length g->f (st l.length g)=some (.exit xt,E g)):
    aJ f (st 0 g)=(match eu go 0 l g with|.inl g'=>some (.exit xt,E g')|.inr e=>lv (R e)):=by
  suffices H:∀(r:List β) (i:Nat) (g:γ),Inv i g->l.drop i=r->i<=l.length->aJ f (st i g)=(match eu go i r g with|.inl g'=>some (.exit xt,E g')|.inr e=>lv (R e)) from H l 0 g h0 rfl (q7 _)
  intro r;induction r with
  |nil=>
    intro i g hi hr hl;have:i=l.length:=by have:=dA List.length hr;simp at this;omega
    subst this;rw[dS,hend g hi];rfl
  |cons b r ih=>
    intro i g hi hr hl
    have hlt:i<l.length:=by
      rcases gB i l.length with h|h;· exact h
      · rw[NZ h] at hr;cases hr
    have hd:=rj hlt;rw[hr] at hd;have hb:l[i]?=some b:=by rw[cj hlt];cases hd;rfl
    have hr':l.drop (i+1)=r:=by cases hd;rfl
    rw[dS,h i b g hb hlt hi];unfold eu;cases hg:go i g b with
    |inl g'=>exact ih (i+1) g' (hI i b g g' hb hi hg) hr' hlt
    |inr e=>rcases hR:R e with ⟨x,s⟩;cases x<;>simp[fG,lv,hR]
def Tt{β γ ε:Type}{go:Nat->γ->β->γ ⊕ ε}{g:γ}(r:List β):∀(l:List β) (i:Nat),(∀j (h:j<l.length),go (i+j) g l[j]=.inl g)->eu go i (l++r) g=eu go (i+l.length) r g
  |[],i,_=>by simp
  |b::l,i,h=>by
    have h0:=h 0 (by simp);simp only[nZ,N6] at h0;rw[e9,eu,h0];simp only;rw[Tt r l (i+1) (λj hj=>by have:=h (j+1) (by simp;omega);simp only[UQ] at this;rw[show i+1+j=i+(j+1) by omega];exact this),cO]
    congr 1;omega
def Ts{β γ ε:Type}(go:Nat->γ->β->γ ⊕ ε)(k:Nat):∀(l:List β) (i:Nat) (g:γ),eu (λj=>go (j+k)) i l g=eu go (i+k) l g
  |[],_,_=>rfl
  |b::l,i,g=>by
    rw[eu,eu];cases go (i+k) g b with
    |inl g'=>simp only;rw[Ts go k l (i+1) g',show i+1+k=i+k+1 by omega]
    |inr e=>rfl
def L6{β γ ε:Type}{go:Nat->γ->β->γ ⊕ ε}{I:Nat->γ->Prop}{O:ε->Prop}(n:Nat)(h:∀i g b,i<n->I i g->(∀g',go i g b=.inl g'->I (i+1) g')/\∀e,go i g b=.inr e->O e):∀(l:List β) (i:Nat) (g:γ),i+l.length=n->I i g->(∀g',eu go i l g=.inl g'->I n g')/\∀e,eu go i l g=.inr e->O e
  |[],i,g,hn,hg=>by
    have:i=n:=by simpa using hn
    subst this;exact⟨λg' e=>by cases e;exact hg,λe h=>by cases h⟩
  |b::l,i,g,hn,hg=>by
    have h1:=h i g b (by simp at hn;omega) hg;rw[eu];cases nv:go i g b with
    |inl g'=>exact L6 n h l (i+1) g' (by simp at hn;omega) (h1.1 g' nv)
    |inr e=>exact⟨λg' e=>(by cases e),λe he=>(by cases he;exact h1.2 _ nv)⟩
end M
set_option linter.unusedVariables false
set_option linter.unusedSimpArgs false
namespace M
open Go
def crlf:ag:=[13,10]
def bA:ag:=[13,10,13,10]
def bR(c:UInt8)(s:ag):Prop:=∀b∈s,b≠c
def kr{c:UInt8}{s t:ag}:bR c (s++t)↔bR c s/\bR c t:=by
  unfold bR;constructor
  · intro h
    exact⟨λb hb=>h b (NB _ hb),λb hb=>h b (NC _ hb)⟩
  · intro h b hb
    rcases dK.1 hb with hb|hb
    · exact h.1 b hb
    · exact h.2 b hb
def uI{c b:UInt8}{s:ag}:bR c (b::s)↔b≠c/\bR c s:=by simp[bR]
def FU(c:UInt8)(t:ag):∀(l r:ag),bR c l->Lib.index (l++r) (c::t)=if Lib.index r (c::t)=-1 then -1 else Lib.index r (c::t)+l.length
  |[],r,_=>by simp only[jz,gS];split<;>simp_all
  |b::l,r,h=>by
    rw[uI] at h;have ih:=FU c t l r h.2;have hge:=Lib.index_ge r (c::t);rw[e9,Lib.index,ih];have hcb:(c==b)=false:=by simp;exact λe=>h.1 e.symm
    have hp:(c::t).isPrefixOf (b::(l++r))=false:=by simp[List.isPrefixOf,hcb]
    rw[hp];simp only[fJ,eL,cO];by_cases g:Lib.index r (c::t)=-1;· simp[g]
    · have g2:¬(Lib.index r (c::t)+l.length=-1):=by omega
      simp only[g,eL,eH,g2]
      omega
def adp(c:UInt8)(t:ag)(l:ag)(h:bR c l):Lib.index l (c::t)=-1:=by have:=FU c t l [] h;rw[oa] at this;rw[this];rfl
def K6(c:UInt8)(t:ag)(l r:ag)(h:bR c l):Lib.index (l++(c::t++r)) (c::t)=l.length:=by
  have h0:Lib.index (c::t++r) (c::t)=0:=by rw[e9,Lib.index,aA (by simp)]
  rw[FU c t l _ h,h0];simp
def PI(c:UInt8)(t:ag)(l r:ag)(h:bR c l):Lib.cut (l++(c::t++r)) (c::t)=(l,r,true):=by
  unfold Lib.cut;rw[K6 c t l r h,aA (by omega)];have e1:((l.length:Int)).toNat=l.length:=by omega
  rw[e1,DE];have e2:l++(c::t++r)=(l++c::t)++r:=by simp
  have e3:l.length+(c::t).length=(l++c::t).length:=by simp
  rw[e2,e3,vI]
def agO(c:UInt8)(t:ag)(n:Nat)(l:ag)(h:bR c l):Lib.splitK (c::t) 0 n l=[l]:=by
  cases n with
  |zero=>rfl
  |succ n=>rw[Lib.splitK,adp c t l h];rfl
def agR(c:UInt8)(t:ag)(l:ag)(h:bR c l):Lib.split l (c::t)=[l]:=agO c t _ l h
def agQ(c:UInt8)(t:ag)(l r:ag)(h:bR c l):Lib.split (l++(c::t++r)) (c::t)=l::Lib.split r (c::t):=by
  have hi:=K6 c t l r h;have e2:l++(c::t++r)=(l++c::t)++r:=by simp
  have e3:l.length+(c::t).length=(l++c::t).length:=by simp
  have hd:(l++(c::t++r)).drop (l.length+(c::t).length)=r:=by rw[e2,e3,vI]
  have hc:=Lib.count_hit (s:=l++(c::t++r)) (sub:=c::t) (by simp) hi;rw[hd] at hc;unfold Lib.split;rw[hc,pG,Lib.splitK,hi];have g:¬(((l.length:Int))==-1)=true:=by simp
  rw[aC g];have e1:((l.length:Int)).toNat=l.length:=by omega
  rw[e1,hd,nZ,DE]
def lines:List ag->ag
  |[]=>[]
  |[l]=>l
  |l::k::ls=>l++(crlf++lines (k::ls))
def R7:∀(ls:List ag),ls≠[]->(∀l∈ls,bR 13 l)->Lib.split (lines ls) crlf=ls
  |[l],_,h=>agR 13 [10] l (h l (bE ..))
  |l::k::ls,_,h=>by have ih:=R7 (k::ls) (by simp) λx hx=>h x (cE _ hx);have:=agQ 13 [10] l (lines (k::ls)) (h l (bE ..));show Lib.split (l++(crlf++lines (k::ls))) crlf=_;rw[show crlf=13::[10] from rfl,this];rw[show (13::[10]:ag)=crlf from rfl,ih]
def adY:∀(ls:List ag),ls≠[]->(∀l∈ls,l≠[])->(∀l∈ls,bR 13 l)->∃b t,lines ls=b::t/\b≠13
  |[l],_,h,h2=>by obtain⟨b,t,e⟩:=UN (h l (bE ..));exact⟨b,t,e,h2 l (bE ..) b (by rw[e];exact bE ..)⟩
  |l::k::ls,_,h,h2=>by obtain⟨b,t,e⟩:=UN (h l (bE ..));exact⟨b,t++(crlf++lines (k::ls)),by show l++_=_;rw[e];rfl,h2 l (bE ..) b (by rw[e];exact bE ..)⟩
def R6(b:ag):∀(ls:List ag),ls≠[]->(∀l∈ls,l≠[])->(∀l∈ls,bR 13 l)->Lib.index (lines ls++(bA++b)) bA=(lines ls).length
  |[l],_,h,h2=>K6 13 [10,13,10] l b (h2 l (bE ..))
  |l::k::ls,_,h,h2=>by
    have hk:∀x∈k::ls,x≠[]:=λx hx=>h x (cE _ hx);have hk2:∀x∈k::ls,bR 13 x:=λx hx=>h2 x (cE _ hx);have ih:=R6 b (k::ls) (by simp) hk hk2;obtain⟨c,t,e,hc⟩:=adY (k::ls) (by simp) hk hk2;have e0:lines (l::k::ls)++(bA++b)=l++(13::10::(lines (k::ls)++(bA++b))):=by show (l++(crlf++lines (k::ls)))++(bA++b)=_;simp[crlf]
    have e1:(lines (l::k::ls)).length=l.length+2+(lines (k::ls)).length:=by show (l++(crlf++lines (k::ls))).length=_;simp[crlf];omega
    have hcb:((13:UInt8)==c)=false:=by simp;exact λe=>hc e.symm
    have p1:bA.isPrefixOf (13::10::(lines (k::ls)++(bA++b)))=false:=by rw[e];simp[bA,List.isPrefixOf,hcb]
    have p2:bA.isPrefixOf (10::(lines (k::ls)++(bA++b)))=false:=by simp[bA,List.isPrefixOf]
    have e2:Lib.index (13::10::(lines (k::ls)++(bA++b))) bA=(lines (k::ls)).length+2:=by
      rw[Lib.index,p1,Lib.index,p2,ih];have q1:¬(((lines (k::ls)).length:Int)==-1)=true:=by simp
      simp only[fJ,eL,q1];have q2:¬(((lines (k::ls)).length:Int)+1==-1)=true:=by simp;omega
      simp only[q2];simp;omega
    rw[e0,show bA=13::[10,13,10] from rfl,FU 13 [10,13,10] l _ (h2 l (bE ..)),show (13::[10,13,10]:ag)=bA from rfl,e2,e1,aC (by omega)];omega
def adX(b:ag)(ls:List ag)(h0:ls≠[])(h:∀l∈ls,l≠[])(h2:∀l∈ls,bR 13 l):Lib.cut (lines ls++(bA++b)) bA=(lines ls,b,true):=by
  unfold Lib.cut;rw[R6 b ls h0 h h2,aA (by omega)];have e1:(((lines ls).length:Int)).toNat=(lines ls).length:=by omega
  have e2:lines ls++(bA++b)=(lines ls++bA)++b:=by simp
  have e3:(lines ls).length+bA.length=(lines ls++bA).length:=by simp
  rw[e1,DE,e3,e2,vI]
def oL:ag:=[72,84,84,80,47,49,46,49]
def iD(f:aE):ag:=f.name++([58,32]++f.value)
def ES(fs:List aE):ag:=fs.flatMap λf=>iD f++crlf
def kq(b:ag):ag:=fD++([58,32]++bq b.length)
def kX(r:ck):ag:=oL++32::(bq r.status.toNat++[32,46])
def gx(r:ck):List ag:=kX r::(r.fields.map iD++[kq r.body])
def iG(r:ck):ag:=lines (gx r)++(bA++r.body)
def gw(r:ck):ag:=if fF r=true then iG r else []
def abQ(fs:List aE):ji fs=ES fs:=by unfold ji ES;congr 1;funext f;simp[rU,iD,crlf]
def adW(fs:List aE)(l z:ag):lines (l::(fs.map iD++[z]))=l++(crlf++(ES fs++z)):=by
  induction fs generalizing l with
  |nil=>rfl
  |cons f fs ih=>show l++(crlf++lines (iD f::(fs.map iD++[z])))=_;rw[ih];simp[ES]
def To(r:ck):iG r=kX r++(crlf++(ji r.fields++(kq r.body++(bA++r.body)))):=by unfold iG gx;rw[adW,abQ];simp
def rP(c:UInt8)(hc:c.toNat<48\/57<c.toNat)(n:Nat):bR c (bq n):=by intro b hb e;have:=ff.1 (JE n) b hb;simp only[iC,aZ] at this;subst e;omega
def Ic(c:UInt8)(hc:tn c=false){s:ag}(h:eE s=true):bR c s:=by intro b hb e;unfold eE at h;simp only[av] at h;have:=ff.1 h.1 b hb;rw[e,hc] at this;cases this
def ahb{s:ag}(h:eE s=true):s≠[]:=by rintro rfl;simp[eE] at h
def Np(c:UInt8)(hc:iY 32 c=false){s:ag}(h:fZ s=true):bR c s:=by intro b hb e;unfold fZ at h;simp only[av] at h;have:=ff.1 h.1.1 b hb;rw[e,hc] at this;cases this
def EI{fs:List aE}(h:jF fs=true){f:aE}(hf:f∈fs):eE f.name=true/\fZ f.value=true/\f.name≠fD:=by unfold jF at h;simp only[av] at h;obtain⟨i,hi,rfl⟩:=pL hf;have:=ff.1 h.1 (fs[i],i) (lY (i:=i) (by simp[hi]));unfold jH at this;simp only[av,n9,II] at this;exact⟨this.1.1.1,this.1.1.2,this.2⟩
def Qe{fs:List aE}(h:jF fs=true):fs.length<=8:=by unfold jF at h;simp only[av,aZ] at h;omega
def YS{f:aE}(h1:eE f.name=true)(h2:fZ f.value=true):bR 13 (iD f)/\bR 10 (iD f)/\iD f≠[]:=by
  refine⟨?_,?_,?_⟩
  · unfold iD
    rw[kr,kr]
    exact⟨Ic 13 (by decide) h1,by simp[bR],Np 13 (by decide) h2⟩
  · unfold iD
    rw[kr,kr]
    exact⟨Ic 10 (by decide) h1,by simp[bR],Np 10 (by decide) h2⟩
  · have:=ahb h1
    simp[iD]
def adQ(b:ag):bR 13 (kq b)/\bR 10 (kq b)/\kq b≠[]:=by
  refine⟨?_,?_,by simp[kq]⟩
  · unfold kq
    rw[kr,kr]
    exact⟨by simp[bR,fD],by simp[bR],rP 13 (by decide) _⟩
  · unfold kq
    rw[kr,kr]
    exact⟨by simp[bR,fD],by simp[bR],rP 10 (by decide) _⟩
def agq(r:ck):bR 13 (kX r)/\bR 10 (kX r)/\kX r≠[]:=by
  refine⟨?_,?_,by simp[kX,oL]⟩
  · unfold kX
    rw[kr,uI,kr]
    exact⟨by simp[bR,oL],by decide,rP 13 (by decide) _,by simp[bR]⟩
  · unfold kX
    rw[kr,uI,kr]
    exact⟨by simp[bR,oL],by decide,rP 10 (by decide) _,by simp[bR]⟩
def Tq{r:ck}(h:jF r.fields=true):∀l∈gx r,bR 13 l/\bR 10 l/\l≠[]:=by
  intro l hl;unfold gx at hl;simp only[ct,dK,aT,y9,zi] at hl;rcases hl with rfl|⟨f,hf,rfl⟩|rfl;· exact agq r
  · have:=EI h hf
    exact YS this.1 this.2.1
  · exact adQ r.body
end M
set_option linter.unusedVariables false
set_option linter.unusedSimpArgs false
namespace M
open Go
open Classical in
noncomputable def mF{α:Type}(body:α->ag)(ok:α->Bool)(z:α)(s:ag):α×Bool:=
  if h:∃r,ok r=true/\body r=s then (h.choose,true) else (z,false)
def LU{α:Type}{body:α->ag}{ok:α->Bool}{z:α}{cand:ag->Option α}(hc:∀r,ok r=true->cand (body r)=some r)(s:ag):
    mF body ok z s=match cand s with
      |some r=>if ok r=true/\body r=s then (r,true) else (z,false)
      |none=>(z,false):=by
  unfold mF;by_cases h:∃r,ok r=true/\body r=s
  · rw[jV h]
    have h1:=h.choose_spec
    have h2:=hc _ h1.1
    rw[h1.2] at h2
    rw[h2]
    simp only
    rw[aA h1]
  · rw[ri h]
    cases hs:cand s with
    |none=>rfl
    |some r=>
      simp only
      rw[aC]
      exact λhr=>h ⟨r,hr⟩
def S7{α:Type}{body:α->ag}{ok:α->Bool}{z:α}{s:ag}(h:(mF body ok z s).2=true):ok (mF body ok z s).1=true/\body (mF body ok z s).1=s:=by
  unfold mF at h⊢;by_cases g:∃r,ok r=true/\body r=s;· rw[jV g];exact g.choose_spec
  · rw[ri g] at h;cases h
def S6{α:Type}{body:α->ag}{ok:α->Bool}{z:α}{s:ag}(h:(mF body ok z s).2=false):mF body ok z s=(z,false):=by
  unfold mF at h⊢;by_cases g:∃r,ok r=true/\body r=s;· rw[jV g] at h;cases h
  · rw[ri g]
def af4{α:Type}{body:α->ag}{ok:α->Bool}{z:α}{cand:ag->Option α}(hc:∀r,ok r=true->cand (body r)=some r){r:α}(h:ok r=true):mF body ok z (body r)=(r,true):=by rw[LU hc,hc r h];simp only;rw[aA ⟨h,trivial⟩]
def colon:ag:=[58,32]
def As:List ag->Option (List aE)
  |[]=>some []
  |l::ls=>if (Lib.cut l colon).2.2=true then (if ls=[]/\(Lib.cut l colon).1=fD then some [] else (As ls).map λfs=>⟨(Lib.cut l colon).1,(Lib.cut l colon).2.1⟩::fs) else none
def LK(s:ag):Option (ag×List aE×ag):=
  if (Lib.cut s bA).2.2=true/\((Lib.split (Lib.cut s bA).1 crlf).length:Int)<=10 then (As (Lib.split (Lib.cut s bA).1 crlf).tail).map λfs=>((Lib.split (Lib.cut s bA).1 crlf).headD [],fs,(Lib.cut s bA).2.1)
  else none
def qY(ws:List ag):Option ag:=match ws with
  |[_,w,_]=>some w
  |_=>none
def L4(s:ag):Option ck:=(LK s).bind λp=>(qY (cw 32 p.1)).map λw=>⟨(((bT w).getD 0:Nat):Int),p.2.1,p.2.2⟩
def dZ:ck:=⟨0,[],[]⟩
noncomputable def fy(s:ag):ck×Bool:=mF iG fF dZ s
def Dd(w r:ag)(h:bR 32 w):cw 32 (w++32::r)=w::cw 32 r:=by rw[HV 32 w _ h];simp[cw]
def Tp(r:ck):cw 32 (kX r)=[oL,bq r.status.toNat,[46]]:=by unfold kX;rw[Dd _ _ (by simp[bR,oL]),show ([32,46]:ag)=32::[46] from rfl,Dd _ _ (rP 32 (by decide) _),M1 32 [46] (by simp)]
def Qv(b:ag):∀(fs:List aE),(∀f∈fs,eE f.name=true/\fZ f.value=true/\f.name≠fD)->As (fs.map iD++[kq b])=some fs
  |[],_=>by have:Lib.cut (kq b) colon=(fD,bq b.length,true):=PI 58 [32] fD (bq b.length) (by simp[bR,fD]);simp[As,this]
  |f::fs,h=>by have hf:=h f (bE ..);have ih:=Qv b fs λx hx=>h x (cE _ hx);have:Lib.cut (iD f) colon=(f.name,f.value,true):=PI 58 [32] f.name f.value (Ic 58 (by decide) hf.1);simp only[bg,e9,As,this,ih];simp
def LY{r:ck}(h:fF r=true):(100<=r.status/\r.status<=599)/\jF r.fields=true/\r.body.length<=120:=by unfold fF at h;simp only[av,aZ] at h;exact⟨h.1.1,h.1.2,by omega⟩
def agp{r:ck}(h:fF r=true):L4 (iG r)=some r:=by
  obtain⟨hs,hf,hb⟩:=LY h;have hl:=Tq hf;have hne:gx r≠[]:=by simp[gx]
  have hc:=adX r.body (gx r) hne (λl h=>(hl l h).2.2) (λl h=>(hl l h).1);have hsp:=R7 (gx r) hne (λl h=>(hl l h).1);have hlen:=Qe hf;have hp:LK (iG r)=some (kX r,r.fields,r.body):=by unfold LK iG;rw[hc];simp only;rw[hsp,aA ⟨trivial,by simp[gx];omega⟩];have ht:(gx r).tail=r.fields.map iD++[kq r.body]:=rfl;rw[ht,Qv r.body r.fields λf hf'=>EI hf hf'];rfl
  unfold L4;rw[hp];simp only[ja];rw[Tp];have hn:bT (bq r.status.toNat)=some r.status.toNat:=nI.2 ⟨by omega,rfl⟩;simp only[qY,cx,hn,q8];have:((r.status.toNat:Nat):Int)=r.status:=by omega
  rw[this]
def Tg{r:ck}{s:ag}(hs:s≠[]):gw r=s↔fF r=true/\iG r=s:=by
  unfold gw;constructor
  · intro h
    split at h
    · rename_i g;exact⟨g,h⟩
    · exact absurd h.symm hs
  · rintro ⟨g,h⟩
    rw[aA g,h]
def ago(r:ck):iG r≠[]:=by rw[To];simp[kX,oL]
def L0(r:ck):gw r=[]↔¬fF r=true:=by unfold gw;have:=ago r;split<;>simp_all
def mC:ag:=[111,98,106]
def qE(o:Ob):ag:=mC++32::(o.path++32::(en o.t++32::bq o.values.length))
def k9(l:List ag):ag:=l.flatMap λv=>v++[10]
def nJ(o:Ob):ag:=qE o++10::(k9 o.values++iG o.resp)
def ep(o:Ob):ag:=if dx o=true then nJ o else []
def fu:Ob:=⟨[],[],[],dZ,0⟩
noncomputable def jP(s:ag):Ob×Bool:=mF nJ dx fu s
def yX(ws:List ag):Option (ag×ag×ag):=match ws with
  |[_,p,t,n]=>some (p,t,n)
  |_=>none
def PF(p r:ag)(h:bR 10 p):ew 10 (p++10::r)=some (p,r):=by
  induction p with
  |nil=>simp[ew]
  |cons b p ih=>rw[uI] at h;rw[e9,ew,aC h.1,ih h.2];rfl
def Uk(c:UInt8){lo:Nat}(hc:iY lo c=false){s:ag}(h:bu (iY lo) s=true):bR c s:=by intro b hb e;have:=ff.1 h b hb;rw[e,hc] at this;cases this
def SU{s:ag}(h:ij s=true):bR 32 s/\bR 10 s:=by unfold ij at h;simp only[av] at h;exact⟨Uk 32 (by decide) h.1.1,Uk 10 (by decide) h.1.1⟩
def SF(c:UInt8)(hc:c.toNat<48\/57<c.toNat)(n:Int):bR c (en n):=by
  unfold en;split;· exact rP c hc _
  · simp[bR]
structure DS (o:Ob):Prop where
  resp:fF o.resp=true
  path:ij o.path=true
  t0:0<=o.t
  t1:o.t<=1000000
  names:nG o.names=true
  ajX:o.names=dO o.resp.fields
  len:o.values.length=o.names.length
  n4:o.names.length<=4
  vals:∀v∈o.values,fZ v=true
def BU{o:Ob}(h:dx o=true):DS o:=by
  unfold dx at h;simp only[av,aZ] at h;have hn:o.names.length<=4:=by have:=h.1.1.1.2;unfold nG at this;simp only[av,aZ] at this;omega
  obtain⟨⟨⟨⟨⟨⟨h1,h2⟩,h3,h4⟩,h5⟩,h6⟩,h7⟩,h8⟩:=h;exact⟨h1,h2,h3,h4,h5,h6,by omega,hn,λv hv=>ff.1 h8 v hv⟩
def aeQ{o:Ob}(h:DS o):cw 32 (qE o)=[mC,o.path,en o.t,bq o.values.length]:=by unfold qE;rw[Dd _ _ (by simp[bR,mC]),Dd _ _ (SU h.path).1,Dd _ _ (SF 32 (by decide) _),M1 32 _ (rP 32 (by decide) _)]
def aeP{o:Ob}(h:DS o):bR 10 (qE o):=by unfold qE;rw[kr,uI,kr,uI,kr,uI];exact⟨by simp[bR,mC],by decide,(SU h.path).2,by decide,SF 10 (by decide) _,by decide,rP 10 (by decide) _⟩
def ajW{o:Ob}(h:DS o):∀v∈o.values,bR 10 v:=λv hv=>Np 10 (by decide) (h.vals v hv)
def aeN(o:Ob):nJ o≠[]:=by simp[nJ,qE,mC]
def SH{o:Ob}{s:ag}(hs:s≠[]):ep o=s↔dx o=true/\nJ o=s:=by
  unfold ep;constructor
  · intro h
    split at h
    · rename_i g;exact⟨g,h⟩
    · exact absurd h.symm hs
  · rintro ⟨g,h⟩
    rw[aA g,h]
def LD(o:Ob):ep o=[]↔¬dx o=true:=by unfold ep;have:=aeN o;split<;>simp_all
def aeU{cand:ag->Option Ob}(hc:∀o,dx o=true->cand (nJ o)=some o)(hn:cand []=none)(s:ag):jP s=match cand s with
    |some o=>if ep o=s then (o,true) else (fu,false)
    |none=>(fu,false):=by
  unfold jP;rw[LU (cand:=cand) hc s];cases hs:cand s with
  |none=>rfl
  |some o=>
    simp only;have hs0:s≠[]:=by rintro rfl;rw[hn] at hs;cases hs
    by_cases g:ep o=s;· rw[aA ((SH hs0).1 g),aA g]
    · rw[aC (mt (SH hs0).2 g),aC g]
end M
set_option linter.unusedVariables false
set_option linter.unusedSimpArgs false
namespace M
open Go
def ia(s:ag)(i:Nat)(g:List ag×Nat)(b:UInt8):(List ag×Nat) ⊕ (List ag×Nat):=
  if b=10/\1<=i/\s[i - 1]?=some 13/\g.2+1<=i then
    (if (s.take (i - 1)).drop g.2=[] then .inr (g.1,i+1) else .inl (g.1++[(s.take (i - 1)).drop g.2],i+1))
  else .inl g
def qa(s:ag):(List ag×Nat) ⊕ (List ag×Nat):=eu (λj=>ia s (j+1)) 0 (s.drop 1) ([],0)
def iE(s:ag):List ag:=match qa s with|.inl g=>g.1|.inr g=>g.1
def lH(s:ag):Int:=match qa s with|.inl g=>-1|.inr g=>g.2
def Rk(s:ag):qa s=eu (ia s) 0 s ([],0):=by
  unfold qa;rw[Ts (ia s) 1];cases s with
  |nil=>rfl
  |cons b s=>
    rw[eu];have:ia (b::s) 0 ([],0) b=.inl ([],0):=by unfold ia;rw[aC (by omega)]
    rw[this];rfl
def Kq(s A l R:ag)(out:List ag)(hs:s=A++(l++(crlf++R)))(hl:bR 13 l):
    eu (ia s) A.length (l++(crlf++R)) (out,A.length)=if l=[] then .inr (out,A.length+2) else eu (ia s) (A.length+l.length+2) R (out++[l],A.length+l.length+2):=by
  rw[Tt (crlf++R) l A.length (λj hj=>by
    unfold ia;rw[aC];rintro ⟨h1,h2,h3,h4⟩;simp only at h4;have hj0:0<j:=by omega
    rw[hs,jb (by omega),mT (by omega)] at h3;exact hl 13 (lY h3) rfl)]
  have g1:ia s (A.length+l.length) (out,A.length) 13=.inl (out,A.length):=by unfold ia;rw[aC];rintro ⟨h1,_⟩;exact absurd h1 (by decide)
  have e1:s[A.length+l.length]?=some 13:=by
    rw[hs,jb (by omega),jb (by omega)];have:A.length+l.length - A.length - l.length=0:=by omega
    rw[this];rfl
  have e2:(s.take (A.length+l.length)).drop A.length=l:=by
    have:s=(A++l)++(crlf++R):=by rw[hs];simp
    rw[this,show A.length+l.length=(A++l).length by simp,DE,vI]
  have g2:ia s (A.length+l.length+1) (out,A.length) 10=if l=[] then .inr (out,A.length+l.length+2) else .inl (out++[l],A.length+l.length+2):=by
    unfold ia;have e3:A.length+l.length+1 - 1=A.length+l.length:=by omega
    rw[e3,aA ⟨rfl,by omega,e1,by simp only;omega⟩];simp only;rw[e2]
  show eu (ia s) (A.length+l.length) (13::10::R) (out,A.length)=_;rw[eu,g1];simp only;rw[eu,g2];by_cases h:l=[]
  · subst h
    simp
  · simp only[h,eL]
def Rm(s b:ag):∀(ls:List ag) (A:ag) (out:List ag),ls≠[]->(∀l∈ls,l≠[])->(∀l∈ls,bR 13 l)->s=A++(lines ls++(bA++b))->
    eu (ia s) A.length (lines ls++(bA++b)) (out,A.length)=.inr (out++ls,A.length+(lines ls).length+4)
  |[l],A,out,_,h,h2,hs=>by
    have e:lines [l]++(bA++b)=l++(crlf++([]++(crlf++b))):=by simp[lines,bA,crlf]
    rw[e] at hs⊢;have h0:l≠[]:=h l (bE ..);rw[Kq s A l _ out hs (h2 l (bE ..)),aC h0];have e2:A.length+l.length+2=(A++l++crlf).length:=by simp[crlf];omega
    rw[e2,Kq s (A++l++crlf) [] b _ (by rw[hs];simp) (by simp[bR]),aA rfl];simp[crlf,lines];omega
  |l::k::ls,A,out,_,h,h2,hs=>by
    have e:lines (l::k::ls)++(bA++b)=l++(crlf++(lines (k::ls)++(bA++b))):=by show (l++(crlf++lines (k::ls)))++(bA++b)=_;simp
    rw[e] at hs⊢;have h0:l≠[]:=h l (bE ..);rw[Kq s A l _ out hs (h2 l (bE ..)),aC h0];have e2:A.length+l.length+2=(A++l++crlf).length:=by simp[crlf];omega
    rw[e2,Rm s b (k::ls) (A++l++crlf) (out++[l]) (by simp) (λx hx=>h x (cE _ hx)) (λx hx=>h2 x (cE _ hx)) (by rw[hs];simp)];have e3:(lines (l::k::ls)).length=l.length+2+(lines (k::ls)).length:=by show (l++(crlf++lines (k::ls))).length=_;simp[crlf];omega
    rw[e3];simp[crlf];omega
def acy(ls:List ag)(b:ag)(h0:ls≠[])(h:∀l∈ls,l≠[])(h2:∀l∈ls,bR 13 l):qa (lines ls++(bA++b))=.inr (ls,(lines ls).length+4):=by have:=Rm (lines ls++(bA++b)) b ls [] [] h0 h h2 rfl;rw[Rk];simpa using this
def Rl(s:ag):wL wS (iE s)<=s.length/\lH s<=s.length/\-1<=lH s:=by
  have H:=L6 (go:=ia s) (I:=λi g=>wL wS g.1<=g.2/\g.2<=i) (O:=λg=>wL wS g.1<=g.2/\g.2<=s.length) s.length (λi g b hi hg=>by
    unfold ia;by_cases hc:b=10/\1<=i/\s[i - 1]?=some 13/\g.2+1<=i
    · rw[aA hc]
      by_cases hl:(s.take (i - 1)).drop g.2=[]
      · rw[aA hl]
        exact⟨λg' h=>(by cases h),λe h=>(by cases h;simp only;omega)⟩
      · rw[aC hl]
        refine⟨λg' h=>?_,λe h=>(by cases h)⟩
        cases h
        simp only
        have e:wL wS (g.1++[(s.take (i - 1)).drop g.2])=wL wS g.1+1+((s.take (i - 1)).drop g.2).length:=by simp[wL,wS];omega
        have e2:((s.take (i - 1)).drop g.2).length=i - 1 - g.2:=by simp;omega
        rw[e,e2]
        omega
    · rw[aC hc]
      exact⟨λg' h=>(by cases h;omega),λe h=>(by cases h)⟩) s 0 ([],0) (by simp) (by simp[wL])
  rw[<-Rk] at H;unfold iE lH;cases hr:qa s with
  |inl g=>have:=H.1 g hr;simp only;omega
  |inr g=>have:=H.2 g hr;simp only;omega
def rO(x:UInt8×UInt8):Bool:=decide (x.1=58) && decide (x.2=32)
def ua(l:ag):Option (Nat×(UInt8×UInt8)):=cY rO 0 (l.zip (l.drop 1))
def ig(l:ag):List aE:=match ua l with
  |some (k,_)=>if l.take k=fD then [] else [⟨l.take k,l.drop (k+2)⟩]
  |none=>[]
def Qp{β:Type}{p:β->Bool}:∀(l:List β) (k i:Nat) (b:β),l[i]?=some b->p b=true->(∀j,j<i->∀c,l[j]?=some c->p c=false)->cY p k l=some (k+i,b)
  |[],k,i,b,h,_,_=>by simp at h
  |a::l,k,0,b,h,hp,_=>by simp at h;subst h;simp[cY,hp]
  |a::l,k,i+1,b,h,hp,hj=>by have h0:=hj 0 (by omega) a (by simp);rw[IU] at h;have ih:=Qp l (k+1) i b h hp λj hj' c hc=>hj (j+1) (by omega) c (by simpa using hc);simp only[cY,h0,fJ,eL,ih];congr 2;omega
def Yp(n v:ag)(h:bR 58 n):ua (n++([58,32]++v))=some (n.length,(58,32)):=by
  unfold ua
  have:=Qp (p:=rO) ((n++([58,32]++v)).zip ((n++([58,32]++v)).drop 1)) 0 n.length (58,32) (by
    rw[N5];constructor
    · rw[jb (by omega)]
      simp
    · rw[pK,jb (by omega)]
      have:1+n.length - n.length=1:=by omega
      rw[this]
      rfl) (by decide) (λj hj c hc=>by
    have h1:=(N5.1 hc).1;rw[mT hj] at h1;have:=h c.1 (lY h1);simp[rO,this])
  rw[this];simp
def R5{f:aE}(h:bR 58 f.name):ig (iD f)=if f.name=fD then [] else [f]:=by
  unfold ig iD;rw[Yp _ _ h];simp only;have e1:(f.name++([58,32]++f.value)).take f.name.length=f.name:=DE
  have e2:(f.name++([58,32]++f.value)).drop (f.name.length+2)=f.value:=by
    have:f.name++([58,32]++f.value)=(f.name++[58,32])++f.value:=by simp
    rw[this,show f.name.length+2=(f.name++[58,32]).length by simp,vI]
  rw[e1,e2]
def adS(b:ag):ig (kq b)=[]:=by have:=R5 (f:=⟨fD,bq b.length⟩) (by simp[bR,fD]);simp only[dB] at this;exact this
def adU(b:ag)(fs:List aE)(h:∀f∈fs,eE f.name=true/\fZ f.value=true/\f.name≠fD):(fs.map iD++[kq b]).flatMap ig=fs:=by
  induction fs with
  |nil=>simp[adS]
  |cons f fs ih=>have hf:=h f (bE ..);have ih:=ih λx hx=>h x (cE _ hx);rw[bg,e9,jW,R5 (Ic 58 (by decide) hf.1),aC hf.2.2,ih];rfl
def adT(l:ag):wL aF (ig l)<=l.length+1:=by
  unfold ig;cases hc:ua l with
  |none=>simp[wL]
  |some x=>
    simp only;split;· simp[wL]
    · simp[wL,aF];omega
def adV(ls:List ag):wL aF (ls.flatMap ig)<=wL wS ls:=by
  induction ls with
  |nil=>simp[wL]
  |cons l ls ih=>have h:=adT l;simp only[wL,jW,fK,iK,za,cO,bg,pF,wS] at*;omega
def oU(s:ag):Option ck:=if 0<=lH s/\iE s≠[] then (qY (cw 32 ((iE s).headD []))).map λw=>⟨(((bT w).getD 0:Nat):Int),(iE s).tail.flatMap ig,s.drop (lH s).toNat⟩ else none
def agr{r:ck}(h:fF r=true):oU (iG r)=some r:=by
  obtain⟨hs,hf,hb⟩:=LY h;have hl:=Tq hf;have hne:gx r≠[]:=by simp[gx]
  have hr:=acy (gx r) r.body hne (λl h=>(hl l h).2.2) (λl h=>(hl l h).1);have e1:iE (iG r)=gx r:=by unfold iE iG;rw[hr]
  have e2:lH (iG r)=(((lines (gx r)).length+4:Nat):Int):=by unfold lH iG;rw[hr]
  unfold oU;rw[e1,e2,aA ⟨by omega,hne⟩];have e3:(gx r).headD []=kX r:=rfl;have e4:(gx r).tail=r.fields.map iD++[kq r.body]:=rfl
  have e5:(iG r).drop (((lines (gx r)).length+4:Nat):Int).toNat=r.body:=by
    unfold iG;have:lines (gx r)++(bA++r.body)=(lines (gx r)++bA)++r.body:=by simp
    rw[this,show (((lines (gx r)).length+4:Nat):Int).toNat=(lines (gx r)++bA).length by simp[bA];omega,vI]
  rw[e3,e4,e5,adU r.body r.fields λf hf'=>EI hf hf',Tp];have hn:bT (bq r.status.toNat)=some r.status.toNat:=nI.2 ⟨by omega,rfl⟩;simp only[qY,cx,hn,q8];have:((r.status.toNat:Nat):Int)=r.status:=by omega
  rw[this]
def ags:oU []=none:=by unfold oU;rw[aC];intro h;have:lH []=-1:=rfl;omega
def aga(s:ag):fy s=match oU s with
    |some r=>if gw r=s then (r,true) else (dZ,false)
    |none=>(dZ,false):=by
  unfold fy;rw[LU (cand:=oU) (λr h=>agr h) s];cases hs:oU s with
  |none=>rfl
  |some r=>
    simp only;have hs0:s≠[]:=by rintro rfl;rw[ags] at hs;cases hs
    by_cases g:gw r=s;· rw[aA ((Tg hs0).1 g),aA g]
    · rw[aC (mt (Tg hs0).2 g),aC g]
def agt{s:ag}{r:ck}(h:oU s=some r):bQ r<=2*s.length:=by
  unfold oU at h;split at h
  · obtain⟨w,hw,rfl⟩:=mR.1 h
    have h1:=Rl s
    have h2:=adV (iE s).tail
    have h3:wL wS (iE s).tail<=wL wS (iE s):=by cases iE s<;>simp[wL];omega
    simp only[bQ,tF]
    omega
  · cases h
end M
set_option linter.unusedVariables false
set_option linter.unusedSimpArgs false
namespace M
open Go
def Nt{α:Type}(w:α->Nat)(l:List α)(n:Nat):wL w (l.take n)<=wL w l:=by have h:l=l.take n++l.drop n:=(NL n l).symm;have h1:=dA List.length h;have h2:=dA (λl=>(l.map w).sum) h;simp only[fK] at h1;simp only[iK,za] at h2;unfold wL;omega
end M
set_option linter.unusedVariables false
set_option linter.unusedSimpArgs false
namespace M
open Go
end M
set_option linter.unusedVariables false
set_option linter.unusedSimpArgs false
namespace M
open Go
def ko{α:Type}(q:α->Int)(k:α):List α->List α
  |[]=>[k]
  |x::l=>if q k<q x then k::x::l else x::ko q k l
def kY{α:Type}(q:α->Int)(l:List α):List α:=l.foldl (λS k=>ko q k S) []
def sK{α:Type}(q:α->Int)(l:List α):Prop:=l.Pairwise λa b=>q a<=q b
def K9{α:Type}(q:α->Int)(k:α):∀l:List α,(ko q k l).Perm (k::l)
  |[]=>List.Perm.refl _
  |x::l=>by
    unfold ko;split;· exact List.Perm.refl _
    · exact((K9 q k l).cons x).trans (List.Perm.swap ..)
def ads{α:Type}{q:α->Int}{k x:α}{l:List α}:x∈ko q k l↔x=k\/x∈l:=by rw[(K9 q k l).mem_iff];simp
def RP{α:Type}{q:α->Int}{k:α}:∀{l:List α},sK q l->sK q (ko q k l)
  |[],_=>by simp[ko,sK]
  |x::l,h=>by
    unfold sK at h⊢;rw[eZ] at h;unfold ko;split
    · rename_i g
      rw[eZ]
      refine⟨λy hy=>?_,eZ.2 h⟩
      rcases ct.1 hy with rfl|hy
      · omega
      · have:=h.1 y hy;omega
    · rename_i g
      rw[eZ]
      refine⟨λy hy=>?_,RP h.2⟩
      rcases ads.1 hy with rfl|hy
      · omega
      · exact h.1 y hy
def agM{α:Type}(q:α->Int)(l:List α)(k:α):kY q (l++[k])=ko q k (kY q l):=by simp[kY]
def HU{α:Type}(q:α->Int)(l:List α):(kY q l).Perm l:=by
  suffices H:∀(l S:List α),(l.foldl (λS k=>ko q k S) S).Perm (S++l) by simpa [kY] using H l []
  intro l;induction l with
  |nil=>intro S;simp
  |cons k l ih=>intro S;rw[pJ];refine(ih _).trans ?_;refine((K9 q k S).append_right l).trans ?_;simpa using (List.perm_middle (a:=k) (l₁:=S) (l₂:=l)).symm
def agN{α:Type}(q:α->Int)(l:List α):sK q (kY q l):=by
  suffices H:∀(l S:List α),sK q S->sK q (l.foldl (λS k=>ko q k S) S) by exact H l [] (by simp[sK])
  intro l;induction l with
  |nil=>intro S h;simpa using h
  |cons k l ih=>intro S h;rw[pJ];exact ih _ (RP h)
def jN{α:Type}(q:α->Int)(k:α)(g:List α×Bool)(x:α):List α×Bool:=
  (if g.2=false/\q k<q x then g.1++[k,x] else g.1++[x],g.2||decide (q k<q x))
def FW{α:Type}(k:α)(g:List α×Bool):List α:=if g.2=true then g.1 else g.1++[k]
def adq{α:Type}(q:α->Int)(k:α)(l:List α)(out:List α):FW k (l.foldl (jN q k) (out,false))=out++ko q k l:=by
  have H:∀(l out:List α),l.foldl (jN q k) (out,true)=(out++l,true):=by
    intro l;induction l with
    |nil=>intro out;simp
    |cons x l ih=>intro out;rw[pJ];simp only[jN,NV,false_and,eL,Bool.true_or];rw[ih];simp
  induction l generalizing out with
  |nil=>simp[FW,ko]
  |cons x l ih=>
    rw[pJ];unfold ko;by_cases g:q k<q x
    · simp only[jN,g,zg,dB,decide_true,Bool.or_true]
      rw[H]
      simp[FW]
    · simp only[jN,g,and_false,eL,NR,Bool.or_false]
      rw[ih]
      simp
end M
set_option linter.unusedVariables false
set_option linter.unusedSimpArgs false
namespace M
open Go
structure zx (S:Int) (l:List Kp):Prop where
  k:∀x∈l,dx x.obj=true/\(5<=x.at_/\x.at_<=19)/\1<=x.seq/\x.seq<S
  p:l.Pairwise λx y=>x.at_≠y.at_/\x.seq<y.seq
def adN(S:Int)(l:List Kp):oN S l=true↔∀i (h:i<l.length),dx l[i].obj=true/\(5<=l[i].at_/\l[i].at_<=19)/\(∀y∈l.take i,¬y.at_=l[i].at_)/\ku l i<l[i].seq/\l[i].seq<S:=by
  unfold oN;rw[ff];constructor
  · intro H i h
    have hm:(l[i],i)∈l.zipIdx:=by
      have:(l.zipIdx)[i]'(by simpa using h)=(l[i],i):=by simp
      rw[<-this];exact cN _
    have:=H _ hm
    simp only[oJ,av,aZ,ff] at this
    exact⟨this.1.1.1.1,this.1.1.1.2,this.1.1.2,this.1.2,this.2⟩
  · intro H x hx
    obtain⟨i,hi,rfl⟩:=pL hx
    have hl:i<l.length:=by simpa using hi
    have:=H i hl
    simp only[List.getElem_zipIdx,oJ,av,aZ,ff,mQ]
    exact⟨⟨⟨⟨this.1,this.2.1⟩,this.2.2.1⟩,this.2.2.2.1⟩,this.2.2.2.2⟩
def Gf{S:Int}{l:List Kp}:oN S l=true↔zx S l:=by
  rw[adN];constructor
  · intro H
    have up:∀j (hj:j<l.length) i (hi:i<j),l[i].seq<l[j].seq:=by
      intro j;induction j with
      |zero=>intro hj i hi;omega
      |succ j ih=>
        intro hj i hi;have h1:=(H (j+1) hj).2.2.2.1;rw[B3 l j (by omega)] at h1;rcases gB i j with h|h;· have:=ih (by omega) i h;omega
        · have:i=j:=by omega
          subst this;exact h1
    refine⟨λx hx=>?_,?_⟩
    · obtain⟨i,hi,rfl⟩:=pL hx
      have h:=H i hi
      refine⟨h.1,h.2.1,?_,h.2.2.2.2⟩
      cases i with
      |zero=>have:=h.2.2.2.1;simp[ku] at this;omega
      |succ i=>
        have h1:=up (i+1) hi 0 (by omega)
        have h2:=(H 0 (by omega)).2.2.2.1
        simp[ku] at h2
        omega
    · rw[nY]
      intro i j hi hj hij
      refine⟨λe=>?_,up j hj i hij⟩
      refine(H j hj).2.2.1 l[i] ?_ e
      exact UB.2 ⟨i,by omega,rfl⟩
  · rintro ⟨hk,hp⟩ i h
    rw[nY] at hp
    have h1:=hk _ (cN h)
    refine⟨h1.1,h1.2.1,λy hy e=>?_,?_,h1.2.2.2⟩
    · obtain⟨j,hj,rfl⟩:=UB.1 hy
      exact(hp j i (by omega) h (by omega)).1 e
    · cases i with
      |zero=>simp[ku];omega
      |succ i=>rw[B3 l i (by omega)];exact(hp i (i+1) (by omega) h (by omega)).2
end M
set_option linter.unusedVariables false
set_option linter.unusedSimpArgs false
namespace M
open Go
def agn{n:Nat}{P:Program}{row:String}{args:Array Value}{w:World}{R:Value->World->Prop}{l:Nat}(h:Rows P row args w R):RowsIn (Fence.wide.inRound l) n P row args w R:=
  λc cs _=>let ⟨v,w',r,s⟩:=h c cs;⟨v,w',r,stepsIn_wide.2 s⟩
def aj2{P:Program}{ops:Array Oper}{Q Q':Exit->Act->World->Prop}{i:Nat}{K K':Act->World->Prop}{a:Act}{w:World}{l n:Nat}
    (hnd:∀o,ops[i]?=some o->∀c,o.op≠.defer c)(hQ:∀c a w,¬Q (.panic c) a w)(hlo:¬LetsOut Q)(hK:∀a w,K a w->K' a w)
    (h:wpOp P ops Q i K a w):wpOpIn (Fence.wide.inRound l) n P ops Q' i K' a w:=by
  unfold wpOp at h;unfold wpOpIn;cases ho:ops[i]? with
  |none=>simp only[ho] at h⊢;exact hK _ _ h
  |some o=>
    simp only[ho] at h⊢;split
    · rename_i hw
      rw[aA hw] at h
      rcases h with h|h
      · refine⟨λ_ _=>trivial,?_⟩
        rw[Oper.semAt_eq _ _ _ (hnd o ho)]
        unfold Oper.wp at h
        generalize (execOp a.eval o).run P w=r at h⊢
        match r,h with
        |.ok (.value u) w',h=>exact hK _ _ h
        |.ok .skip w',h=>exact hK _ _ h
        |.ok (.defer d) w',h=>exact hK _ _ h
        |.ok (.enter f args) w',h=>
          refine⟨λhd=>(by cases hd),CallsIn.inRound l (callsIn_wide.2 (Calls.mono h λe w'' he=>?_))⟩
          match e,he with
          |.returned u,he=>exact hK _ _ he
          |.panicked c,he=>exact(hQ _ _ _ he).elim
          |.outgrown,he=>exact(hlo he).elim
        |.ok (.row row args) w',h=>exact⟨λhd=>(by cases hd),RowsIn.mono (agn h) λv w'' he=>hK _ _ he⟩
        |.halt (.panic u) w',h=>exact(hQ _ _ _ h).elim
      · exact(hlo h.2).elim
    · rename_i hw
      rw[aC hw] at h
      exact⟨λ_ _=>trivial,hK _ _ h⟩
def Uo{P:Program}{ops:Array Oper}{Q Q':Exit->Act->World->Prop}{l n:Nat}
    (hnd:∀(i:Nat) (o:Oper),ops[i]?=some o->∀c,o.op≠.defer c)(hQ:∀c a w,¬Q (.panic c) a w)(hlo:¬LetsOut Q)(hN:∀a w,Q .normal a w->Q' .normal a w):
    ∀{fuel:Nat} {listed:Array Bool} {a:Act} {w:World},wpAny P .any ops Q fuel listed a w->wpAnyIn (Fence.wide.inRound l) n P .any ops Q' fuel listed a w
  |0,_,_,_,h=>⟨h.1,hN _ _ h.2⟩
  |fuel+1,_,_,_,h=>⟨λhr=>hN _ _ (h.1 hr),λi hi=>aj2 (hnd i) hQ hlo (λ_ _ h=>Uo hnd hQ hlo hN h) (h.2 i hi)⟩
def atEnd(K:Act->World->Prop):Exit->Act->World->Prop
  |.normal,a,w=>K a w
  |_,_,_=>False
def af5{P:Program}{ops:Array Oper}{Q:Exit->Act->World->Prop}{S:World->Prop}{l n id:Nat}{a:Act}{w:World}(hm:P.follows .mixedOrders=true)
    (hnd:(ops.all λo=>match o.op with|.defer _=>false|_=>true)=true)
    {N:Nat}(hN:ops.size=N)(h:wpAnyH P .any ops (atEnd λa w=>Q .normal a w) S N (Array.replicate N false) a w.drew):(Code.region id ops true).wpIn (Fence.wide.inRound l) n P Q a w:=by subst hN;refine wpIn_region_any hm ?_;refine Uo (Q:=atEnd λa w=>Q .normal a w) (Q':=Q) (w:=w.drew) (λi o ho c hc=>?_) (λ_ _ _ h=>h) (λ⟨_,_,h⟩=>h) (λ_ _ h=>h) (wpAny_of_held _ _ _ _ h);have:=Array.all_eq_true_iff_forall_mem.1 hnd o (Array.mem_of_getElem? ho);rw[hc] at this;cases this
def aU{P:Program}{ops:Array Oper}{Q:Exit->Act->World->Prop}{S:World->Prop}{md:Region.Mode}{i d:Nat}{oi:Oper}{v:Value}{fuel:Nat}{listed aS:Array Bool}{tm:Array Value}{df:List Deferred}{w:World}(hi:ops[i]?=some oi)
    (hs:Region.noSelect ops=true)(hf:Region.free md ops listed i=true)(hr:(Region.ready md ops listed).contains i=true)
    (hQ:∀c a w,Q (.panic c) (a.put oi.dst v) w->Q (.panic c) a w)(hd:oi.dst=some d)(hl:listed.setIfInBounds i true=aS)(hS:S w)(hy:YieldsIf P ops S oi v {tmps:=tm,defers:=df})
    (h:wpAnyH P md ops Q S fuel aS {tmps:=tm.setIfInBounds d v,defers:=df} w):wpAnyH P md ops Q S (fuel+1) listed {tmps:=tm,defers:=df} w:=by refine wpAnyH_take hi hs hf hr hQ hy hS ?_;rw[hd,hl];exact h
end M
set_option linter.unusedVariables false
set_option linter.unusedSimpArgs false
namespace Go.Proofs
structure cU where
  p:ByteArray
  a1:Option Addr
  l1:Nat
  c1:Nat
  a2:Option Addr
  l2:Nat
  c2:Nat
  s:Int
  a3:Option Addr
  l3:Nat
  c3:Nat
  b:ByteArray
  t:Int
  k:Int
  q:Int
def cU.v(e:cU):Nat->Value
  |0=>.string e.p
  |1=>.slice e.a1 e.l1 e.c1
  |2=>.slice e.a2 e.l2 e.c2
  |3=>.int .i64 e.s
  |4=>.slice e.a3 e.l3 e.c3
  |5=>.string e.b
  |6=>.int .i64 e.t
  |7=>.int .i64 e.k
  |_=>.int .i64 e.q
def cU.ob(e:cU):Array Value:= #[.string e.p,.slice e.a1 e.l1 e.c1,.slice e.a2 e.l2 e.c2,.int .i64 e.s,.slice e.a3 e.l3 e.c3,.string e.b,.int .i64 e.t]
def cU.kp(e:cU):Array Value:= #[.string e.p,.slice e.a1 e.l1 e.c1,.slice e.a2 e.l2 e.c2,.int .i64 e.s,.slice e.a3 e.l3 e.c3,.string e.b,.int .i64 e.t,.int .i64 e.k,.int .i64 e.q]
def cU.z:cU:=⟨⟨#[]⟩,none,0,0,none,0,0,0,none,0,0,⟨#[]⟩,0,0,0⟩
def wv:Array Value:= #[.string ⟨#[]⟩,.slice none 0 0,.slice none 0 0,.int .i64 0,.slice none 0 0,.string ⟨#[]⟩,.int .i64 0]
end Go.Proofs
namespace M
open Go Go.RowKit Go.Proofs
def Wg[Bs]{P:Program}{f:FuncId}{xs:List X}{r:X}
    (h:∀w zl zb cs,cs.map C.er=xs->mW w zl zb cs->pO w zl zb->Calls P f (cs.map C.val).toArray w λe w'=>∃c:C,e=.returned c.val/\c.er=r/\Below w.heap.size w w'/\kD w w' c):
    AC P f xs λr' ps=>r'=r/\ps=xs.map λ_=>.dead:=by
  intro w zl zb cs e hA jm;refine(h w zl zb cs e hA jm).mono λe' w' ⟨c,he,hc,hb,c1,c2,c3⟩=>?_;have AL:Ext (λb k=>∃x∈cs,x.fp b k) w w':=⟨hb.os,hb.tape,hb.output,hb.size,λb hl=>.inl (hb.block b hl)⟩;refine⟨c,cs.map λx=>.dead x.val,zl,⟨he,by rw[cP];rfl,AL,⟨λx hx'=>?_,λx hx'=>?_,λx hx' b k hf=>?_,λb k hz=>jT (hA.cI b k (hz.imp id λh=>h.elim)) hb.size,?_⟩,λx hx' b k hf=>?_,λ_ _ h=>h,λ_ _ h=>.inl h⟩,hc,?_⟩
  · rcases ct.1 hx' with rfl|hx'
    · exact c1 _
    · obtain⟨y,_,rfl⟩:=aT.1 hx';trivial
  · rcases ct.1 hx' with rfl|hx'
    · exact c2
    · obtain⟨y,_,rfl⟩:=aT.1 hx';trivial
  · rcases ct.1 hx' with rfl|hx'
    · have h1:=c3 b k hf
      exact⟨λhz=>by have:=hA.cI b k (.inl hz);omega,λhz=>hz⟩
    · obtain⟨y,_,rfl⟩:=aT.1 hx';exact hf.elim
  · refine eZ.2 ⟨λx hx b k hf hf'=>?_,?_⟩
    · obtain⟨y,_,rfl⟩:=aT.1 hx;exact hf'
    · refine nY.2 λi j hi hj _ b k hf=>?_
      obtain⟨y,_,hy⟩:=aT.1 (cN hi)
      rw[<-hy] at hf
      exact hf.elim
  · rcases ct.1 hx' with rfl|hx'
    · exact .inr (c3 b k hf)
    · obtain⟨y,_,rfl⟩:=aT.1 hx';exact hf.elim
  · rw[<-e]
    simp[cP,IK,C.er]
def agj{w w':World}{Z Z':Md->Nat->Nat->Prop}{B sz len cap:Nat}{A:Option Ad}{e:Nat->Nat->C}(hs:∀i j,i<len->j<sz->∃s,e i j=.str s)
    (h:(C.row .own sz A len cap e).ok w Z)(hB:∀b k,(C.row .own sz A len cap e).fp b k->B<=b)
    (hk:∀b arr t fz,B<=b->w.heap[b]?=some (.cells arr t fz)->w'.heap[b]?=some (.cells arr t fz)):(C.row .own sz A len cap e).ok w' Z':=by
  obtain⟨h1,h2,h3,h4,h5⟩:=h;have hA:∀g o,A=some (g,o,none)->B<=g:=λg o e=>hB g 0 ⟨rfl,.inl ⟨o,e⟩⟩;refine⟨h1,λi j hi hj=>?_,λi j hi hj=>?_,λ_=>?_,h5⟩
  · obtain⟨g,o,e1,e2,e3⟩:=h2 i j hi hj
    refine⟨g,o,e1,?_,λhm=>(hm rfl).elim⟩
    unfold World.cell? at e2⊢
    simp only at e2⊢
    cases hg:w.heap[g]? with
    |none=>rw[hg] at e2;simp at e2
    |some ob=>
      cases ob with
      |cells arr t fz=>rw[hk g arr t fz (hA g o e1) hg];rw[hg] at e2;exact e2
      |_=>rw[hg] at e2;simp at e2
  · obtain⟨a1,a2,a3,a4⟩:=h3 i j hi hj
    obtain⟨s,hs⟩:=hs i j hi hj
    refine⟨a1,a2,a3,?_⟩
    rw[hs] at a4⊢
    exact a4
  · rcases h4 rfl with h4|⟨g,o,arr,t,fz,e1,e2,e3,e4⟩
    · exact .inl h4
    · refine .inr ⟨g,o,arr,t,fz,e1,hk g arr t fz (hA g o e1) e2,e3,λk k1 k2=>?_⟩
      have:=e4 k k1 k2
      unfold World.frozen? at this⊢
      simp only at this⊢
      rw[e2] at this
      rw[hk g arr t fz (hA g o e1) e2]
      exact this
def EA{c:C}{xs:List X}(h:c.er=.agg xs):∃f,c=.agg xs.length f/\∀j x,xs[j]?=some x->(f j).er=x:=by
  cases c with
  |agg n f=>
    simp only[C.er,X.agg.injEq] at h;have hn:n=xs.length:=by rw[<-h];simp
    subst hn;refine⟨f,rfl,λj x hj=>?_⟩;obtain⟨hl,_⟩:=aN.1 hj;rw[<-h] at hj;simp[hl] at hj;exact hj
  |_=>simp[C.er] at h
def YN{c:C}{m:Md}{xs:List X}(h:c.er=.ptr m xs):∃g o f,c=.ptr m g o xs.length f/\∀j x,xs[j]?=some x->(f j).er=x:=by
  cases c with
  |ptr m' g o n f=>
    simp only[C.er,X.ptr.injEq] at h;obtain⟨rfl,h⟩:=h;have hn:n=xs.length:=by rw[<-h];simp
    subst hn;refine⟨g,o,f,rfl,λj x hj=>?_⟩;obtain⟨hl,_⟩:=aN.1 hj;rw[<-h] at hj;simp[hl] at hj;exact hj
  |_=>simp[C.er] at h
def agk{sz len:Nat}{e:Nat->Nat->C}{rows:List (List X)}(hl:len=rows.length)(h:∀i,i<len->rows[i]?=some ((List.range sz).map λj=>(e i j).er))(hr:∀r∈rows,∀x∈r,∃s,x=.str s):∀i j,i<len->j<sz->∃s,e i j=.str s:=by intro i j hi hj;have h1:=h i hi;obtain⟨s,hs⟩:=hr _ (lY h1) (e i j).er (aT.2 ⟨j,nX.2 hj,rfl⟩);exact⟨s,kH hs⟩
def Tn(l:List ag):∀r∈l.map eS,∀x∈r,∃s,x=.str s:=by intro r hr x hx;obtain⟨s,_,rfl⟩:=aT.1 hr;simp at hx;exact⟨_,hx⟩
def agm(l:List aE):∀r∈l.map aH,∀x∈r,∃s,x=.str s:=by intro r hr x hx;obtain⟨s,_,rfl⟩:=aT.1 hr;simp at hx;rcases hx with rfl|rfl<;>exact⟨_,rfl⟩
def M3{w w':World}{Z Z':Md->Nat->Nat->Prop}{B sz:Nat}{c:C}{rows:List (List X)}(hr:∀r∈rows,∀x∈r,∃s,x=.str s)(h:c.er=.row .own sz rows)(hok:c.ok w Z)(hB:∀b k,c.fp b k->B<=b)
    (hk:∀b arr t fz,B<=b->w.heap[b]?=some (.cells arr t fz)->w'.heap[b]?=some (.cells arr t fz)):c.ok w' Z':=by obtain⟨A,len,cap,e,rfl,hlen,hrow⟩:=wu h;exact agj (agk hlen hrow hr) hok hB hk
def aeM{w w':World}{Z Z':Md->Nat->Nat->Prop}{B:Nat}{c:C}{o:Ob}(h:c.er=.agg (aV .own o))(hok:c.ok w Z)(hB:∀b k,c.fp b k->B<=b)
    (hk:∀b arr t fz,B<=b->w.heap[b]?=some (.cells arr t fz)->w'.heap[b]?=some (.cells arr t fz)):c.ok w' Z':=by
  obtain⟨f,rfl,hf⟩:=EA h;obtain⟨h1,h2⟩:=hok;have cm:∀j,j<7->∀b k,(f j).fp b k->B<=b:=λj hj b k hh=>hB b k ⟨j,hj,hh⟩;refine⟨λj hj=>⟨(h1 j hj).1,?_⟩,h2⟩;have Rs:j<7:=hj;have ho:=(h1 j hj).2;have hb:=cm j Rs;have e0:=hf 0 _ rfl;have e1:=hf 1 _ rfl;have e2:=hf 2 _ rfl;have e3:=hf 3 _ rfl;have e4:=hf 4 _ rfl;have e5:=hf 5 _ rfl;have e6:=hf 6 _ rfl;match j,Rs with
  |0,_=>rw[kH e0] at ho⊢;exact ho
  |1,_=>exact M3 (Tn _) e1 ho hb hk
  |2,_=>exact M3 (Tn _) e2 ho hb hk
  |3,_=>rw[pY e3];trivial
  |4,_=>exact M3 (agm _) e4 ho hb hk
  |5,_=>rw[kH e5] at ho⊢;exact ho
  |6,_=>rw[pY e6];trivial
def sO{c:C}{m:Md}{z:Nat}{rows:List (List X)}(h:c.er=.row m z rows):∃A len cap,c.val=.slice A len cap:=by obtain⟨A,len,cap,e,rfl,_,_⟩:=wu h;exact⟨_,_,_,rfl⟩
def YL{f:Nat->C}{k:Kp}{m:Md}(h:∀j x,(aP m k)[j]?=some x->(f j).er=x):∃x:cU,(∀j,j<9->(f j).val=x.v j)/\x.p=⟨k.obj.path.toArray⟩:=by
  obtain⟨A1,l1,c1,h1⟩:=sO (h 1 _ rfl);obtain⟨A2,l2,c2,h2⟩:=sO (h 2 _ rfl);obtain⟨A4,l4,c4,h4⟩:=sO (h 4 _ rfl);refine⟨⟨⟨k.obj.path.toArray⟩,A1,l1,c1,A2,l2,c2,k.obj.resp.status,A4,l4,c4,⟨k.obj.resp.body.toArray⟩,k.obj.t,k.at_,k.seq⟩,λj hj=>?_,rfl⟩;match j,hj with
  |0,_=>rw[kH (h 0 _ rfl)];rfl
  |1,_=>exact h1
  |2,_=>exact h2
  |3,_=>rw[pY (h 3 _ rfl)];rfl
  |4,_=>exact h4
  |5,_=>rw[kH (h 5 _ rfl)];rfl
  |6,_=>rw[pY (h 6 _ rfl)];rfl
  |7,_=>rw[pY (h 7 _ rfl)];rfl
  |8,_=>rw[pY (h 8 _ rfl)];rfl
def Wv{W:World}{zl zb:Nat->Nat->Prop}{l:List C}(h:∀x∈l,x.ok W (Zf zl zb)/\x.bare/\∀b k,¬x.fp b k)(hz:∀b k,zl b k\/zb b k->b<W.heap.size):mW W zl zb l:=
  ⟨λx hx=>(h x hx).1,λx hx=>(h x hx).2.1,λx hx b k hf=>((h x hx).2.2 b k hf).elim,hz,nY.2 λi j hi hj _ b k hf=>((h _ (cN hi)).2.2 b k hf).elim⟩
def J8[Bs]{w W:World}{zl zb:Nat->Nat->Prop}(h:pO w zl zb)(hb:Below w.heap.size w W):pO W zl zb:=λb hb0=>by
  obtain⟨h1,h2⟩:=h b hb0
  have hlt:b<w.heap.size:=by
    rcases gB b w.heap.size with h'|h';· exact h'
    · rw[kC h'] at h1
      have:=DL hb0
      rw[<-h1] at this
      cases this
  exact⟨(hb.block b hlt).trans h1,h2⟩
def LF{w W:World}{zl zb:Nat->Nat->Prop}(hz:∀b k,zl b k\/zb b k->b<w.heap.size)(hb:Below w.heap.size w W){c:C}(h:c.ok w (Zf zl zb)):c.ok W (Zf zl zb):=
  C.fE (S:=λ_ _=>False) (⟨hb.os,hb.tape,hb.output,hb.size,λb hl=>.inl (hb.block b hl)⟩:Ext (λ_ _=>False) w W) (λ_ _ _ _ hs=>hs) c (λ_ _ _ hs=>hs) h
def Ju[Bs]{P:Program}{f:FuncId}{xs:List X}{r0:X}(hac:AC P f xs λr _=>r=r0){W:World}{zl zb:Nat->Nat->Prop}{cs:List C}(he:cs.map C.er=xs)(hl:∀x∈cs,x.ok W (Zf zl zb)/\x.bare/\∀b k,¬x.fp b k)(hz:∀b k,zl b k\/zb b k->b<W.heap.size)(hg:pO W zl zb):
    Calls P f (cs.map C.val).toArray W λe w'=>∃r:C,e=.returned r.val/\r.er=r0/\Below W.heap.size W w'/\(∃Z,r.ok w' Z)/\r.bare/\∀b k,r.fp b k->W.heap.size<=b:=
  (hac W zl zb cs he (Wv hl hz) hg).mono λe w' ⟨r,ps,aD,hD,hr⟩=>
    ⟨r,hD.ends,hr,(hD.ext.mono (S':=λ_ _=>False) λb k ⟨x,hx,hf⟩ _=>(hl x hx).2.2 b k hf).below,⟨_,hD.all.ok _ (bE ..)⟩,hD.all.bare _ (bE ..),λb k hf=>by
      rcases hD.dom r (bE ..) b k hf with ⟨y,hy,hf⟩|h;· exact((hl y hy).2.2 b k hf).elim
      · exact h⟩
def aeL{c:C}{m:Md}{o:Ob}(h:c.er=.agg (aV m o)):∃O:cU,c.val=.agg O.ob:=by obtain⟨f,rfl,hf⟩:=EA h;obtain⟨A1,l1,c1,h1⟩:=sO (hf 1 _ rfl);obtain⟨A2,l2,c2,h2⟩:=sO (hf 2 _ rfl);obtain⟨A4,l4,c4,h4⟩:=sO (hf 4 _ rfl);refine⟨⟨⟨o.path.toArray⟩,A1,l1,c1,A2,l2,c2,o.resp.status,A4,l4,c4,⟨o.resp.body.toArray⟩,o.t,0,0⟩,?_⟩;have e0:=kH (hf 0 _ rfl);have e3:=pY (hf 3 _ rfl);have e5:=kH (hf 5 _ rfl);have e6:=pY (hf 6 _ rfl);simp[C.val,cU.ob,mP,h1,h2,h4,e0,e3,e5,e6]
def Y5{α:Type}{p:α->Bool}{l:List α}{i:Nat}{hi:i<l.length}(h:p l[i]=true)(h2:∀j (hj:j<l.length),i<j->p l[j]=false):l.reverse.find? p=some l[i]:=by
  have e:l=l.take i++l[i]::l.drop (i+1):=by rw[<-rj hi,NL]
  have hd:∀x∈(l.drop (i+1)).reverse,¬p x=true:=by intro x hx;obtain⟨j,hj,rfl⟩:=pL (NH.1 hx);rw[List.getElem_drop];rw[tF] at hj;simp[h2 (i+1+j) (by omega) (by omega)]
  conv=>lhs;rw[e]
  rw[Iy,NJ,mS,List.find?_append,List.find?_eq_none.2 hd];simp[h]
def zO:Ob:=⟨[],[],[],⟨0,[],[]⟩,0⟩
def wD(pS:List ag->List ag->List aE->Bool)(pH:List Bn->Ob->Bool)(s:Sh)(q:Rq):Option Ob:=
  (s.ai.reverse.find? λk=>decide (k.obj.path=q.path) && pS k.obj.names k.obj.values q.fields && !pH s.aG k.obj).map λk=>k.obj
def wC(pS:List ag->List ag->List aE->Bool)(pH:List Bn->Ob->Bool)(s:Sh)(q:Rq):X:=.aj [.agg (aV .own ((wD pS pH s q).getD zO)),.bool (wD pS pH s q).isSome]
open Classical in
noncomputable def An(pS:List ag->List ag->List aE->Bool)(pH:List Bn->Ob->Bool)(xs:List X):Option X:=
  if h:∃r,∃s q,xs=[.ptr .af (aO .af s),.agg (dw .af q)]/\bw s<=1073741824/\dh q<=1073741824/\r=wC pS pH s q then some h.choose else none
def zF(j:Nat):C:=if j=0\/j=5 then .str ⟨#[]⟩ else if j=3\/j=6 then .int .i64 0 else .row .own (if j=4 then 2 else 1) none 0 0 λ_ _=>.dead undef
def zC:C:=.agg 7 zF
def akn:zC.er=.agg (aV .own zO):=by simp[zC,zF,C.er,mP,zO]
def akp:zC.val=.agg wv:=by simp[zC,zF,C.val,mP,wv]
def Uy(j b k:Nat):¬(zF j).fp b k:=by
  unfold zF;split;· exact λh=>h
  · split
    · exact λh=>h
    · rintro ⟨_,⟨o,h⟩|⟨i,_,hi,_⟩⟩
      · cases h
      · omega
def ako{w w':World}:kD w w' zC:=by
  refine⟨λZ=>⟨λj hj=>?_,λj hj b k hf=>(Uy j b k hf).elim⟩,λj hj=>?_,λb k ⟨j,hj,hf⟩=>(Uy j b k hf).elim⟩
  · unfold zF
    split
    · exact⟨trivial,by show (0:Nat)<=_;omega⟩
    · split
      · exact⟨trivial,trivial⟩
      · exact⟨trivial,dF _,λi j hi=>by omega,λi j hi=>by omega,λ_=>.inl ⟨rfl,rfl⟩,λi j hi=>by omega⟩
  · unfold zF
    split
    · trivial
    · split<;>trivial
def QE{w w':World}{c:C}{b:Bool}(h:kD w w' c)(hn:c.fV):kD w w' (mO [c,.bool b]):=by
  refine⟨λZ=>⟨λj hj=>?_,λj hj x k hf j' hj' hne hf'=>?_⟩,λj hj=>?_,λx k ⟨j,hj,hf⟩=>?_⟩
  · match j,hj with
    |0,_=>exact⟨hn,h.1 Z⟩
    |1,_=>exact⟨trivial,trivial⟩
  · match j,hj,j',hj' with
    |0,_,1,_=>exact hf'
    |1,_,_,_=>exact hf
    |0,_,0,_=>exact hne rfl
  · match j,hj with
    |0,_=>exact h.2.1
    |1,_=>trivial
  · match j,hj with
    |0,_=>exact h.2.2 x k hf
    |1,_=>exact hf.elim
def aey[Bs]{P:Program}{f0:FuncId}{g:List X->Option X}
    (h:∀xs r,g xs=some r->∀w zl zb cs,cs.map C.er=xs->mW w zl zb cs->pO w zl zb->Calls P f0 (cs.map C.val).toArray w λe w'=>∃c:C,e=.returned c.val/\c.er=r/\Below w.heap.size w w'/\kD w w' c):(eN f0 g).Sound P:=λf xs o e=>by
  unfold eN at e;split at e
  · rename_i hf
    subst hf
    split at e
    · rename_i r hr
      cases e
      exact Wg (h xs r hr)
    · cases e
  · cases e
def agJ{c:C}(h:c.cT):c.bare:=by cases c<;>first|trivial|exact h.elim
def Y7{c:C}(h:c.cT)(hf:c.fits .af)(b k:Nat):¬c.fp b k:=by
  cases c with
  |row m sz A len cap e=>rintro ⟨rfl,_⟩;rcases hf with h|h|⟨_,h⟩<;>cases h
  |ptr=>exact h.elim
  |agg=>exact h.elim
  |aj=>exact h.elim
  |_=>exact λh=>h
def OI{c:C}{z:Nat}{rows:List (List X)}(h:c.er=.row .af z rows)(b k:Nat):¬c.fp b k:=by obtain⟨A,len,cap,e,rfl,_,_⟩:=wu h;rintro ⟨h,_⟩;cases h
def Tl{c:C}{m:Md}{z:Nat}{rows:List (List X)}(h:c.er=.row m z rows):c.bare:=by obtain⟨A,len,cap,e,rfl,_,_⟩:=wu h;trivial
def Y6[Bs]{P:Program}{f0 fs fh fc:FuncId}{pS:List ag->List ag->List aE->Bool}{pH:List Bn->Ob->Bool}
    (hS:∀(ns vs:List ag) (fl:List aE),ns.length<=1073741824->vs.length<=1073741824->fl.length<=1073741824->AC P fs [.row .af 1 (ns.map eS),.row .af 1 (vs.map eS),.row .af 2 (fl.map aH)] λr _=>r=.bool (pS ns vs fl))
    (hH:∀(l:List Bn) (o:Ob),wL aW l<=1073741824->bP o<=1073741824->AC P fh [.row .af 4 (l.map cu),.agg (aV .af o)] λr _=>r=.bool (pH l o))
    (hC:∀(o:Ob),bP o<=1073741824->AC P fc [.agg (aV .af o)] λr _=>r=.agg (aV .own o))
    (hw:∀(g o:Nat) (A Ab Aq:Option Addr) (len cap lb cb lq cq:Nat) (qm:Int) (qs qb:ByteArray) (E:Nat->cU) (pS pH:Nat->Bool) (R:Nat->cU->World->World->Prop) (w:World),
      len<=1073741824->g<w.heap.size->w.cell? ⟨g,o+2,none⟩=some (.slice A len cap)->w.cell? ⟨g,o+3,none⟩=some (.slice Ab lb cb)->
      (∀i j,i<len->j<9->∃g o,A=some ⟨g,o,none⟩/\g<w.heap.size/\w.cell? ⟨g,o+i*9+j,none⟩=some ((E i).v j))->
      (∀i,i<len->∀W,Below w.heap.size w W->Calls P fs #[.slice (E i).a1 (E i).l1 (E i).c1,.slice (E i).a2 (E i).l2 (E i).c2,.slice Aq lq cq] W λe W'=>e=.returned (.bool (pS i))/\Below W.heap.size W W')->
      (∀i,i<len->∀W,Below w.heap.size w W->Calls P fh #[.slice Ab lb cb,.agg (E i).ob] W λe W'=>e=.returned (.bool (pH i))/\Below W.heap.size W W')->
      (∀i,i<len->∀W,Below w.heap.size w W->Calls P fc #[.agg (E i).ob] W λe W'=>∃O:cU,e=.returned (.agg O.ob)/\Below W.heap.size W W'/\R i O W W')->
      Calls P f0 #[.pointer (some ⟨g,o,none⟩),.agg #[.int .i64 qm,.string qs,.slice Aq lq cq,.string qb]] w λe W'=>Below w.heap.size w W'/\
        ((e=.returned (.tuple #[.agg wv,.bool false])/\∀i,i<len->¬((E i).p=qs/\pS i=true/\pH i=false))\/
         (∃i O W1 W2,i<len/\e=.returned (.tuple #[.agg (cU.ob O),.bool true])/\((E i).p=qs/\pS i=true/\pH i=false)/\(∀i',i<i'->i'<len->¬((E i').p=qs/\pS i'=true/\pH i'=false))/\
            Below w.heap.size w W1/\R i O W1 W2/\∀b arr t fz,W1.heap.size<=b->W2.heap[b]?=some (.cells arr t fz)->W'.heap[b]?=some (.cells arr t fz)))):
    (eN f0 (An pS pH)).Sound P:=
  aey λxs r hg w zl zb cs hx hA jm=>by
    unfold An at hg;split at hg
    · rename_i h
      obtain⟨s,q,hxs,fT,gm,hr⟩:=h.choose_spec
      cases hg
      rw[hr]
      rw[hxs] at hx
      obtain⟨c1,r1,rfl,h1,h2⟩:=map_cons hx
      obtain⟨c2,r2,rfl,h3,h4⟩:=map_cons h2
      obtain rfl:=map_nil h4
      obtain⟨g,o,f,rfl,hf⟩:=YN h1
      obtain⟨fq,rfl,nu⟩:=EA h3
      have ok1:=hA.ok _ (bE ..)
      have ok2:=hA.ok _ (cE _ (bE ..))
      have Fk:=hA.cI
      obtain⟨k1,k2,k3,k4⟩:=ok1
      obtain⟨q1,q2⟩:=ok2
      obtain⟨A,len,cap,e,ic,hlen,hrow⟩:=wu (hf 2 _ rfl)
      obtain⟨Ab,lb,cb,RD⟩:=sO (hf 3 _ rfl)
      obtain⟨Aq,lq,cq,RF⟩:=sO (nu 2 _ rfl)
      have hq0:=pY (nu 0 _ rfl)
      have hq1:=kH (nu 1 _ rfl)
      have hq3:=kH (nu 3 _ rfl)
      have SJ:=(k3 2 (by show 2<6;omega)).2.2
      rw[ic] at SJ
      obtain⟨m1,m2,m3,m4,m5⟩:=SJ
      have hlo:len=s.ai.length:=by rw[hlen];simp
      have dR:bw s=bW s.aI+wL bO s.ai+wL aW s.aG:=rfl
      have wU:dh q=q.path.length+wL aF q.fields+q.body.length:=rfl
      have Kz:=bp (w:=bO) s.ai
      have oD:=bp (w:=aF) q.fields
      have hent:∀i (hi:i<len),∀j x,(aP .af (s.ai[i]'(by omega)))[j]?=some x->(e i j).er=x:=by intro i hi j x hj;have h5:=hrow i hi;rw[de,cj (by omega)] at h5;simp only[cx,dL] at h5;rw[h5] at hj;obtain⟨hl,_⟩:=aN.1 hj;simp only[dV,tG] at hl;simp only[de,rq hl,cx,dL] at hj;exact hj
      have hE:∀i (hi:i<len),∃x:cU,(∀j,j<9->(e i j).val=x.v j)/\x.p=⟨(s.ai[i]'(by omega)).obj.path.toArray⟩:=λi hi=>YL (hent i hi)
      obtain⟨E,AB⟩:∃E:Nat->cU,∀i (hi:i<len),(∀j,j<9->(e i j).val=(E i).v j)/\(E i).p=⟨(s.ai[i]'(by omega)).obj.path.toArray⟩:=
        ⟨λi=>if h:i<len then (hE i h).choose else cU.z,λi hi=>by simp only[jV hi];exact(hE i hi).choose_spec⟩
      have wM:∀W,Below w.heap.size w W->∀i,i<len->∀j,j<9->(e i j).ok W (Zf zl zb)/\(e i j).bare/\∀b k,¬(e i j).fp b k:=λW hb i hi j hj=>
        ⟨LF Fk hb (m3 i j hi hj).2.2.2,agJ (m3 i j hi hj).2.1,Y7 (m3 i j hi hj).2.1 (m3 i j hi hj).2.2.1⟩
      have KU:∀W,Below w.heap.size w W->∀b k,zl b k\/zb b k->b<W.heap.size:=λW hb b k h=>jT (Fk b k h) hb.size
      have Rx:∀W,Below w.heap.size w W->(fq 2).ok W (Zf zl zb)/\(fq 2).bare/\∀b k,¬(fq 2).fp b k:=λW hb=>⟨LF Fk hb (q1 2 (by show 2<4;omega)).2,Tl (nu 2 _ rfl),OI (nu 2 _ rfl)⟩
      have hbf:∀W,Below w.heap.size w W->(f 3).ok W (Zf zl zb)/\(f 3).bare/\∀b k,¬(f 3).fp b k:=λW hb=>⟨LF Fk hb (k3 3 (by show 3<6;omega)).2.2,Tl (hf 3 _ rfl),OI (hf 3 _ rfl)⟩
      have Fa:∀i (hi:i<len),(C.agg 7 (e i)).er=.agg (aV .af (s.ai[i]'(by omega)).obj)/\(C.agg 7 (e i)).val=.agg (E i).ob:=by
        intro i hi;obtain⟨v1,v2⟩:=AB i hi;have hn:=hent i hi;refine⟨?_,?_⟩
        · have e0:=hn 0 _ rfl
          have e1:=hn 1 _ rfl
          have e2:=hn 2 _ rfl
          have e3:=hn 3 _ rfl
          have e4:=hn 4 _ rfl
          have e5:=hn 5 _ rfl
          have e6:=hn 6 _ rfl
          simp only[C.er,mP,List.range_zero,jz,e9,bg,gQ,e0,e1,e2,e3,e4,e5,e6]
          rfl
        · have u0:=v1 0 (by decide)
          have u1:=v1 1 (by decide)
          have u2:=v1 2 (by decide)
          have u3:=v1 3 (by decide)
          have u4:=v1 4 (by decide)
          have u5:=v1 5 (by decide)
          have u6:=v1 6 (by decide)
          simp only[C.val,mP,List.range_zero,jz,e9,bg,gQ,u0,u1,u2,u3,u4,u5,u6,cU.v,cU.ob]
      have hal:∀W,Below w.heap.size w W->∀i,i<len->(C.agg 7 (e i)).ok W (Zf zl zb)/\(C.agg 7 (e i)).bare/\∀b k,¬(C.agg 7 (e i)).fp b k:=λW hb i hi=>
        ⟨⟨λj hj=>⟨(m3 i j hi (by omega)).1,(wM W hb i hi j (by omega)).1⟩,λj hj b k cm=>((wM W hb i hi j (by omega)).2.2 b k cm).elim⟩,λj hj=>(wM W hb i hi j (by omega)).2.1,λb k ⟨j,hj,cm⟩=>(wM W hb i hi j (by omega)).2.2 b k cm⟩
      have KQ:∀i (hi:i<len),bP (s.ai[i]'(by omega)).obj<=1073741824:=λi hi=>by have:=tq (cN (show i<s.ai.length by omega));omega
      have key:=hw g o (A.map λq=>⟨q.1,q.2.1,q.2.2⟩) Ab Aq len cap lb cb lq cq q.method ⟨q.path.toArray⟩ ⟨q.body.toArray⟩ E
        (λi=>(s.ai[i]?).elim false λk=>pS k.obj.names k.obj.values q.fields) (λi=>(s.ai[i]?).elim false λk=>pH s.aG k.obj)
        (λi O W W'=>∃k,s.ai[i]?=some k/\∃c:C,c.er=.agg (aV .own k.obj)/\c.val=.agg O.ob/\(∃Z,c.ok W' Z)/\c.bare/\∀b k,c.fp b k->W.heap.size<=b)
        w (by omega) k2 ?k1 ?k2 ?k3 ?k4 ?k5 ?k6
      · have ha:([C.ptr .af g o (aO .af s).length f,C.agg (dw .af q).length fq].map C.val).toArray= #[.pointer (some ⟨g,o,none⟩),.agg #[.int .i64 q.method,.string ⟨q.path.toArray⟩,.slice Aq lq cq,.string ⟨q.body.toArray⟩]]:=by
          simp[C.val,mP,hq0,hq1,RF,hq3]
        rw[ha]
        have KK:∀i (hi:i<s.ai.length),((E i).p=⟨q.path.toArray⟩/\(s.ai[i]?.elim false λk=>pS k.obj.names k.obj.values q.fields)=true/\(s.ai[i]?.elim false λk=>pH s.aG k.obj)=false)↔(decide (s.ai[i].obj.path=q.path) && pS s.ai[i].obj.names s.ai[i].obj.values q.fields && !pH s.aG s.ai[i].obj)=true:=by
          intro i hi;rw[(AB i (by omega)).2,cj hi];simp only[Option.elim_some,av,aZ,n9,NW];constructor
          · rintro ⟨a1,a2,a3⟩
            exact⟨⟨by simpa using dA Array.toList a1,a2⟩,a3⟩
          · rintro ⟨⟨a1,a2⟩,a3⟩
            exact⟨by rw[a1],a2,a3⟩
        refine Calls.mono key λe' w' ⟨hb,hres⟩=>?_
        rcases hres with ⟨rfl,hno⟩|⟨i,O,W1,W2,hi,rfl,hp,KB,hbW,⟨k,hk,c,h5,h6,⟨Z,h7⟩,h8,h9⟩,hst⟩
        · have hnone:wD pS pH s q=none:=by
            unfold wD;rw[List.find?_eq_none.2];· rfl
            · intro k hk
              obtain⟨i,hi,rfl⟩:=pL (NH.1 hk)
              exact λh=>hno i (by omega) ((KK i hi).2 h)
          refine⟨mO [zC,.bool false],?_,?_,hb,QE ako trivial⟩
          · simp[mO,C.val,mP,akp]
          · unfold wC
            rw[hnone]
            simp[mO,C.er,mP,akn]
        · have hi2:i<s.ai.length:=by omega
          rw[cj hi2] at hk
          cases hk
          have hsome:wD pS pH s q=some s.ai[i].obj:=by
            unfold wD;rw[Y5 (hi:=hi2) ((KK i hi2).1 hp) (λj hj hij=>by have:=KB j hij (by omega);rw[KK j hj] at this;simpa using this)]
            rfl
          have hfc:kD w w' c:=by refine⟨λZ'=>aeM h5 h7 h9 hst,h8,λb k hf=>iZ hbW.size (h9 b k hf)⟩
          refine⟨mO [c,.bool true],?_,?_,hb,QE hfc ?_⟩
          · simp[mO,C.val,mP,h6]
          · unfold wC
            rw[hsome]
            simp[mO,C.er,mP,h5]
          · obtain⟨fo,rfl,_⟩:=EA h5
            trivial
      case k1=>
        have:=(k1 2 (by show 2<6;omega)).1
        rw[ic] at this
        exact this
      case k2=>
        have:=(k1 3 (by show 3<6;omega)).1
        rw[RD] at this
        exact this
      case k3=>
        intro i j hi hj
        obtain⟨g',o',e1,e2,_⟩:=m2 i j hi hj
        rw[(AB i hi).1 j hj] at e2
        refine⟨g',o',by rw[e1];rfl,?_,e2⟩
        rcases gB g' w.heap.size with h|h
        · exact h
        · simp[World.cell?,kC h] at e2
      case k4=>
        intro i hi W hb
        have ho:=KQ i hi
        have fk:∀o:Ob,bP o=o.path.length+wL wS o.names+wL wS o.values+bQ o.resp:=λ_=>rfl
        have:=fk (s.ai[i]'(by omega)).obj
        have n1:=bp (w:=wS) (s.ai[i]'(by omega)).obj.names
        have n2:=bp (w:=wS) (s.ai[i]'(by omega)).obj.values
        have hc:=Ju (hS (s.ai[i]'(by omega)).obj.names (s.ai[i]'(by omega)).obj.values q.fields (by omega) (by omega) (by omega)) (W:=W) (zl:=zl) (zb:=zb) (cs:=[e i 1,e i 2,fq 2]) (by
          simp only[bg,gQ];rw[hent i hi 1 _ rfl,hent i hi 2 _ rfl,nu 2 _ rfl]) (λx hx=>by
          simp only[ct,y9,zi] at hx;rcases hx with rfl|rfl|rfl;· exact wM W hb i hi 1 (by decide)
          · exact wM W hb i hi 2 (by decide)
          · exact Rx W hb) (KU W hb) (J8 jm hb)
        simp only[bg,gQ,(AB i hi).1 1 (by decide),(AB i hi).1 2 (by decide),RF] at hc
        refine Calls.mono hc λe' w' ⟨r,h5,h6,h7,_⟩=>⟨?_,h7⟩
        rw[h5,P8 h6,cj (show i<s.ai.length by omega)]
        rfl
      case k5=>
        intro i hi W hb
        have hc:=Ju (hH s.aG (s.ai[i]'(by omega)).obj (by omega) (KQ i hi)) (W:=W) (zl:=zl) (zb:=zb) (cs:=[f 3,.agg 7 (e i)]) (by
          simp only[bg,gQ];rw[(Fa i hi).1,hf 3 _ rfl]) (λx hx=>by
          simp only[ct,y9,zi] at hx;rcases hx with rfl|rfl;· exact hbf W hb
          · exact hal W hb i hi) (KU W hb) (J8 jm hb)
        simp only[bg,gQ,(Fa i hi).2,RD] at hc
        refine Calls.mono hc λe' w' ⟨r,h5,h6,h7,_⟩=>⟨?_,h7⟩
        rw[h5,P8 h6,cj (show i<s.ai.length by omega)]
        rfl
      case k6=>
        intro i hi W hb
        have hc:=Ju (hC (s.ai[i]'(by omega)).obj (KQ i hi)) (W:=W) (zl:=zl) (zb:=zb) (cs:=[.agg 7 (e i)]) (by
          simp only[bg,gQ];rw[(Fa i hi).1]) (λx hx=>by
          simp only[ct,y9,zi] at hx;rcases hx with rfl;exact hal W hb i hi) (KU W hb) (J8 jm hb)
        simp only[bg,gQ,(Fa i hi).2] at hc
        refine Calls.mono hc λe' w' ⟨r,h5,h6,h7,h8,h9,h10⟩=>?_
        obtain⟨O,hO⟩:=aeL h6
        exact⟨O,by rw[h5,hO],h7,_,cj (show i<s.ai.length by omega),r,h6,hO,h8,h9,h10⟩
    · cases hg
end M
set_option linter.unusedVariables false
set_option linter.unusedSimpArgs false
namespace M
open Go
def qx{α β:Type}{f:α->β}(hf:∀a b,f a=f b->a=b):∀{l l':List α},l.map f=l'.map f->l=l'
  |[],[],_=>rfl
  |[],_::_,h=>by cases h
  |_::_,[],h=>by cases h
  |a::l,b::l',h=>by simp only[bg,oc] at h;rw[hf _ _ h.1,qx hf h.2]
def JO(a b:ag)(h:eS a=eS b):a=b:=by simpa using h
def PS(a b:aE)(h:aH a=aH b):a=b:=by cases a;cases b;simpa using h
def YK(a b:Wr)(h:eW a=eW b):a=b:=by cases a;cases b;simpa using h
def YF(a b:Bn)(h:cu a=cu b):a=b:=by cases a;cases b;simpa using h
def YH{m:Md}(a b:Rq)(h:dw m a=dw m b):a=b:=by obtain⟨a1,a2,a3,a4⟩:=a;obtain⟨b1,b2,b3,b4⟩:=b;simp only[dw,oc,X.int.injEq,X.str.injEq,X.row.injEq,NW,tD,tC] at h;obtain⟨h1,h2,h3,h4⟩:=h;rw[h1,qx PS h3,show a2=b2 by simpa using h2,show a4=b4 by simpa using h4]
def YG{m:Md}(a b:Kp)(h:aP m a=aP m b):a=b:=by obtain⟨⟨a1,a2,a3,⟨a4,a5,a6⟩,a7⟩,a8,a9⟩:=a;obtain⟨⟨b1,b2,b3,⟨b4,b5,b6⟩,b7⟩,b8,b9⟩:=b;simp only[aP,oc,X.int.injEq,X.str.injEq,X.row.injEq,NW,tD,tC] at h;obtain⟨h1,h2,h3,h4,h5,h6,h7,h8,h9⟩:=h;rw[show a1=b1 by simpa using h1,qx JO h2,qx JO h3,h4,qx PS h5,show a6=b6 by simpa using h6,h7,h8,h9]
def YI{m:Md}(a b:Sh)(h:aO m a=aO m b):a=b:=by obtain⟨⟨a1,a2⟩,a3,a4,a5,a6⟩:=a;obtain⟨⟨b1,b2⟩,b3,b4,b5,b6⟩:=b;simp only[aO,oc,X.int.injEq,X.row.injEq,tD,tC] at h;obtain⟨h1,h2,h3,h4,h5,h6⟩:=h;rw[qx JO h1,qx YK h2,qx YG h3,qx YF h4,h5,h6]
def Y4(pS:List ag->List ag->List aE->Bool)(pH:List Bn->Ob->Bool)(s:Sh)(q:Rq)(hs:bw s<=1073741824)(hq:dh q<=1073741824):An pS pH [.ptr .af (aO .af s),.agg (dw .af q)]=some (wC pS pH s q):=by unfold An;have h:∃r,∃s' q',([.ptr .af (aO .af s),.agg (dw .af q)]:List X)=[.ptr .af (aO .af s'),.agg (dw .af q')]/\bw s'<=1073741824/\dh q'<=1073741824/\r=wC pS pH s' q':=⟨_,s,q,rfl,hs,hq,rfl⟩;rw[jV h];obtain⟨s',q',he,_,_,hr⟩:=h.choose_spec;rw[hr];simp only[oc,X.ptr.injEq,X.agg.injEq,tD,tC] at he;rw[YI _ _ he.1,YH _ _ he.2]
end M
