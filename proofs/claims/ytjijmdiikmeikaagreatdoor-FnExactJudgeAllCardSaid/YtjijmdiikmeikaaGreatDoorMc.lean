/- A machine of values for loaded Go functions, sound for the calculus of calls; part 3; no conditions. -/
import Derived.Test.YtjijmdiikmeikaaGreatDoorMb
import Derived.Sort.Grow
import Derived.Deep.Draws
import Derived.Lib.LaidTab
import Derived.MakeChecks
import Derived.Laws.BitsLemmas
import Derived.ChangeArms
import Derived.ChangeReads
import Derived.ChangeOld
import Derived.ChangeShapes
import Derived.SizedLaws
import Derived.RowKit
import Derived.Below
import Derived.Lib.ItoaNum
import Derived.Lib.TrimByte
import Derived.Lib.AtoiAllCases
import Derived.Lib.SplitLaws
import Derived.Lib.Join
import Derived.Lib.IndexMore
import Derived.HandedShaped
import Derived.Lib.Strings
import Derived.Lib.Slices
import Derived.Lib.Walk
import Derived.Stop.LaidErr
set_option linter.defProp false
set_option linter.unusedSectionVars false
set_option linter.unusedVariables false
set_option linter.unusedSimpArgs false
namespace M
open Go
section
variable {C C':cB}{ok:FuncId->Bool}
def akz{C:cB}{d:Option Nat}{s s':ah}{f:FuncId}{xs:List X}(h:qB d s (C f xs)=some s'):∃o,C f xs=some o/\∀C':cB,C' f xs=some o->qB d s (C' f xs)=some s':=by
 cases ho:C f xs with
 |none=>rw[ho] at h;cases h
 |some o=>rw[ho] at h;exact⟨o,rfl,λC' h'=>by rw[h'];exact h⟩
def aky{C:cB}{d:Option Nat}{as:List (AV×PM)}{back:zQ}{s':ah}{f:FuncId}{xs:List X}(h:CI d as back (C f xs)=some s'):∃o,C f xs=some o/\∀C':cB,C' f xs=some o->CI d as back (C' f xs)=some s':=by
 cases ho:C f xs with
 |none=>rw[ho] at h;cases h
 |some o=>rw[ho] at h;exact⟨o,rfl,λC' h'=>by rw[h'];exact h⟩
def QX{f:FuncId}{d:Option Nat}{as:List (AV×PM)}{fv:Option AV}{s s':ah}(h:rD C f d as fv s=some s'):
  ∃xs o,C f xs=some o/\∀C':cB,C' f xs=some o->rD C' f d as fv s=some s':=by
 unfold rD at h⊢;by_cases hb:X.bare.jE (bX as s).1=true
 ·simp only[aA hb] at h⊢;cases hm:ei as with
  |none=>
   simp only[hm] at h⊢;by_cases hc:wK (bX as s).2 fv f=true;·simp only[aA hc] at h⊢;obtain⟨o,h1,h2⟩:=akz h;exact⟨_,o,h1,h2⟩
   ·simp only[aE hc] at h;cases h
  |some xn=>
   obtain⟨x,n⟩:=xn;simp only[hm] at h⊢;unfold EU at h⊢;split at h
   ·split at h;·rename_i y back h1 h2;simp only[h1,aA h2];obtain⟨o,h1,h2⟩:=aky h;exact⟨_,o,h1,h2⟩
    ·cases h
   ·cases h
 ·simp only[aE hb] at h;cases h
def Ry{o:cw}{s s':ah}(h:cQ C ok o s=some s'):(∀C':cB,cQ C' ok o s=some s')\/∃f xs r,C f xs=some r/\∀C':cB,C' f xs=some r->cQ C' ok o s=some s':=by
 cases o with
 |call d f as=>obtain⟨xs,o,h1,h2⟩:=QX (C:=C) h;exact .inr ⟨f,xs,o,h1,h2⟩
 |kC d x as=>
  simp only[cQ] at h⊢;split at h
  ·rename_i f caps hf;split at h;·rename_i hok;obtain⟨xs,o,h1,h2⟩:=QX (C:=C) h;refine .inr ⟨f,xs,o,h1,λC' h'=>?_⟩;simp only[aA hok];exact h2 C' h'
   ·cases h
  ·cases h
 |rC d f x as=>
  simp only[cQ] at h⊢;split at h
  ·rename_i cs h1;split at h
   ·rename_i h2;simp only[aA h2];refine .inr ?_;cases ho:C f (.agg (bY cs s).1::gy (bY cs s).2 .dead as (as.map λ_=>.dead)) with
    |none=>rw[ho] at h;cases h
    |some r=>rw[ho] at h;exact⟨f,_,r,ho,λC' h'=>by rw[h'];exact h⟩
   ·cases h
  ·cases h
 |_=>exact .inl λ_=>h
def Ru{g:G}{s s':ah}(h:eG C ok g s=some s'):(∀C':cB,eG C' ok g s=some s')\/∃f xs r,C f xs=some r/\∀C':cB,C' f xs=some r->eG C' ok g s=some s':=by
 obtain⟨gg,o⟩:=g;cases gg with
 |none=>exact Ry h
 |some tb=>
  obtain⟨t,b⟩:=tb;simp only[eG] at h⊢;split at h
  ·rename_i v hv;split at h;·rename_i h1;simp only[hv,aA h1];exact Ry h
   ·rename_i h1;simp only[hv,aE h1];exact .inl λ_=>h
  ·exact .inl λ_=>h
  ·cases h
def cB.le(C C':cB):Prop:=∀f xs o,C f xs=some o->C' f xs=some o
def Rw(hl:C.le C'){g:G}{s s':ah}(h:eG C ok g s=some s'):eG C' ok g s=some s':=by
 rcases Ru h with h|⟨f,xs,r,h1,h2⟩;·exact h _
 ·exact h2 _ (hl _ _ _ h1)
def Le(hl:C.le C'):∀{l:List G} {s s':ah},j0 C ok l s=some s'->j0 C' ok l s=some s'
 |[],_,_,h=>h
 |g::l,s,s',h=>by
  simp only[j0] at h⊢;cases h1:eG C ok g s with
  |none=>rw[h1] at h;cases h
  |some s1=>rw[h1] at h;rw[Rw hl h1];exact Le hl h
def wV(hl:C.le C'):∀{t:DT} {s s':ah},eD C ok t s=some s'->eD C' ok t s=some s'
 |.nil _,_,_,h=>h
 |.step _ g l,s,s',h=>by
  simp only[eD] at h⊢;cases h1:eG C ok g s with
  |none=>rw[h1] at h;cases h
  |some s1=>rw[h1] at h;rw[Rw hl h1];exact wV hl h
 |.alt a b,s,s',h=>by
  simp only[eD] at h⊢;unfold same at h;split at h;·rename_i x y hx hy;rw[wV hl hx,wV hl hy];exact h
  ·cases h
 |.kp _ t,s,s',h=>wV (t:=t) hl h
def Jj{k k':ah->cF}{r r':cF}{o:Ex×ah}(h:fE k r=some o)(hr:∀x,r=some x->r'=some x)(hk:∀s,k s=some o->k' s=some o):fE k' r'=some o:=by
 unfold fE at h;split at h;·rw[hr _ rfl];exact hk _ h
 ·rw[hr _ rfl];exact h
 ·rw[hr _ rfl];exact h
 ·cases h
def xK{f f':ah->cF}(hf:∀s o,f s=some o->f' s=some o):∀{n m:Nat} {s:ah} {o:Ex×ah},n<=m->iter f n s=some o->iter f' m s=some o
 |0,_,_,_,_,h=>by cases h
 |n+1,0,_,_,hn,_=>by omega
 |n+1,m+1,s,o,hn,h=>Jj h (hf s) λs' h'=>xK hf (by omega) h'
end
noncomputable def aJ(f:ah->cF)(s:ah):cF:=by classical exact if h:∃o:Ex×ah,∃n,iter f n s=some o then some (Classical.choose h) else none
def Cj{f:ah->cF}{s:ah}{o:Ex×ah}{n:Nat}(h:iter f n s=some o):aJ f s=some o:=by have hh:∃o:Ex×ah,∃n,iter f n s=some o:=⟨o,n,h⟩;unfold aJ;rw[oc hh];obtain⟨m,hm⟩:=El hh;have h1:=xK (λ_ _ h=>h) (Nat.le_max_left m n) hm;have h2:=xK (λ_ _ h=>h) (Nat.le_max_right m n) h;rw[h1] at h2;exact h2
def Na{f:ah->cF}{s:ah}{o:Ex×ah}(h:aJ f s=some o):∃n,iter f n s=some o:=by
 unfold aJ at h;split at h;·rename_i hh;cases h;exact El hh
 ·cases h
def Np{α:Type}{a b:Option α}(h1:∀x,a=some x->b=some x)(h2:∀x,b=some x->a=some x):a=b:=by
 cases a with
 |none=>cases b with
  |none=>rfl
  |some y=>exact h2 y rfl
 |some x=>exact(h1 x rfl).symm
def dV(f:ah->cF)(s:ah):aJ f s=fE (aJ f) (f s):=by
 refine Np (λo h=>?_) λo h=>?_
 ·obtain⟨n,hn⟩:=Na h;cases n with
  |zero=>cases hn
  |succ n=>exact Jj hn (λ_ h=>h) λs' h'=>Cj h'
 ·unfold fE at h;split at h;·rename_i s' hs;obtain⟨n,hn⟩:=Na h;refine Cj (n:=n+1) ?_;simp only[iter,hs,fE];exact hn
  ·rename_i hs;refine Cj (n:=1) ?_;simp only[iter,hs,fE];exact h
  ·rename_i hs;refine Cj (n:=1) ?_;simp only[iter,hs,fE];exact h
  ·cases h
noncomputable def ai(C:cB)(ok:FuncId->Bool):A->ah->cF
 |.skip,s=>some (.normal,s)
 |.ret,s=>some (.ret,s)
 |.exit id,s=>some (.exit id,s)
 |.ops l,s=>iV (j0 C ok l s)
 |.draw t,s=>iV (eD C ok t s)
 |.seq a b,s=>fE (ai C ok b) (ai C ok a s)
 |.cond c a b,s=>match ay s c with
  |.bool t=>if t=true then ai C ok a s else ai C ok b s
  |_=>none
 |.block id b,s=>lf id (ai C ok b s)
 |.loop b,s=>aJ (ai C ok b) s
 |.pk ks b,s=>lP ks (ai C ok b s)
def HN{a b:Option ah}(h:∀s,a=some s->b=some s){o:Ex×ah}(ho:iV a=some o):iV b=some o:=by
 unfold iV at ho;split at ho;·rw[h _ rfl];exact ho
 ·cases ho
def Qf{id:Nat}{a b:cF}(h:∀s,a=some s->b=some s){o:Ex×ah}(ho:lf id a=some o):lf id b=some o:=by
 cases a with
 |none=>cases ho
 |some x=>rw[h _ rfl];exact ho
def Uw{ks:List Nat}{a b:cF}(h:∀s,a=some s->b=some s){o:Ex×ah}(ho:lP ks a=some o):lP ks b=some o:=by
 cases a with
 |none=>cases ho
 |some x=>rw[h _ rfl];exact ho
def acz{C C':cB}{ok:FuncId->Bool}(hl:C.le C'){N:Nat}:∀{t:A} {s:ah} {o:Ex×ah},eA C ok N t s=some o->ai C' ok t s=some o:=by
 intro t;induction t with
 |skip=>intro s o h;exact h
 |ret=>intro s o h;exact h
 |exit id=>intro s o h;exact h
 |ops l=>intro s o h;exact HN (λs' h'=>Le hl h') h
 |draw l=>intro s o h;exact HN (λs' h'=>wV hl h') h
 |seq a b iU j9=>intro s o h;exact Jj h (λx hx=>iU hx) λs' h'=>j9 h'
 |cond c a b iU j9=>
  intro s o h;simp only[eA] at h;simp only[ai];split at h
  ·rename_i t ht;try rw[ht]
   cases t with
   |true=>exact iU h
   |false=>exact j9 h
  ·cases h
 |block id b ih=>intro s o h;exact Qf (λx hx=>ih hx) h
 |loop b ih=>intro s o h;exact Cj (xK (λs o h=>ih h) (eP _) h)
 |pk ks b ih=>intro s o h;exact Uw (λx hx=>ih hx) h
def acA{C C':cB}{ok:FuncId->Bool}(hl:C.le C'){N N':Nat}(hN:N<=N'):∀{t:A} {s:ah} {o:Ex×ah},eA C ok N t s=some o->eA C' ok N' t s=some o:=by
 intro t;induction t with
 |skip=>intro s o h;exact h
 |ret=>intro s o h;exact h
 |exit id=>intro s o h;exact h
 |ops l=>intro s o h;exact HN (λs' h'=>Le hl h') h
 |draw l=>intro s o h;exact HN (λs' h'=>wV hl h') h
 |seq a b iU j9=>intro s o h;exact Jj h (λx hx=>iU hx) λs' h'=>j9 h'
 |cond c a b iU j9=>
  intro s o h;simp only[eA] at h⊢;split at h
  ·rename_i t ht;cases t with
   |true=>exact iU h
   |false=>exact j9 h
  ·cases h
 |block id b ih=>intro s o h;exact Qf (λx hx=>ih hx) h
 |loop b ih=>intro s o h;exact xK (λs o h=>ih h) hN h
 |pk ks b ih=>intro s o h;exact Uw (λx hx=>ih hx) h
def Fc{L:cB}{T:iB}:∀{n m:Nat},n<=m->(exec L T n).le (exec L T m)
 |0,_,_,_,_,_,h=>by cases h
 |n+1,0,hn,_,_,_,_=>by omega
 |n+1,m+1,hn,f,xs,o,h=>by
  have hnm:n<=m:=by omega
  simp only[exec] at h⊢;split at h
  ·rename_i F hF;unfold eF at h⊢;split at h
   ·rename_i hl;rw[aA hl];cases hr:eA (exec L T n) (aj T) n F.body (mZ xs) with
    |none=>rw[hr] at h;cases h
    |some r=>rw[hr] at h;rw[acA (Fc hnm) hnm hr];exact h
   ·cases h
  ·exact h
noncomputable def ev(L:cB)(T:iB):cB:=λf xs=>by classical exact if h:∃o:Out,∃n,exec L T n f xs=some o then some (Classical.choose h) else none
def Lg{L:cB}{T:iB}{f:FuncId}{xs:List X}{o:Out}{n:Nat}(h:exec L T n f xs=some o):ev L T f xs=some o:=by have hh:∃o:Out,∃n,exec L T n f xs=some o:=⟨o,n,h⟩;unfold ev;rw[oc hh];obtain⟨m,hm⟩:=El hh;have h1:=Fc (Nat.le_max_left m n) f xs _ hm;have h2:=Fc (Nat.le_max_right m n) f xs _ h;rw[h1] at h2;exact h2
def Fa{L:cB}{T:iB}{f:FuncId}{xs:List X}{o:Out}(h:ev L T f xs=some o):∃n,exec L T n f xs=some o:=by
 unfold ev at h;split at h;·rename_i hh;cases h;exact El hh
 ·cases h
def acH(L:cB)(T:iB)(n:Nat):(exec L T n).le (ev L T):=λ_ _ _ h=>Lg h
def ar1[Bs]{P:Program}{L:cB}{T:iB}(hL:L.Sound P)(hT:T.Ok P):(ev L T).Sound P:=λf xs o h=>by obtain⟨n,hn⟩:=Fa h;exact RH hL hT n f xs o hn
section
variable {L:cB}{T:iB}
def Rv{g:G}{s s':ah}(h:eG (ev L T) (aj T) g s=some s'):∃n,∀m,n<=m->eG (exec L T m) (aj T) g s=some s':=by
 rcases Ru h with h|⟨f,xs,r,h1,h2⟩;·exact⟨0,λm _=>h _⟩
 ·obtain⟨n,hn⟩:=Fa h1;exact⟨n,λm hm=>h2 _ (Fc hm f xs r hn)⟩
def RA:∀{l:List G} {s s':ah},j0 (ev L T) (aj T) l s=some s'->∃n,∀m,n<=m->j0 (exec L T m) (aj T) l s=some s'
 |[],s,s',h=>⟨0,λm _=>h⟩
 |g::l,s,s',h=>by
  simp only[j0] at h⊢;cases h1:eG (ev L T) (aj T) g s with
  |none=>rw[h1] at h;cases h
  |some s1=>rw[h1] at h;obtain⟨n1,js⟩:=Rv h1;obtain⟨n2,hn2⟩:=RA (l:=l) h;exact⟨max n1 n2,λm hm=>by rw[js m (by omega)];exact hn2 m (by omega)⟩
def Ak:∀{l:DT} {s s':ah},eD (ev L T) (aj T) l s=some s'->∃n,∀m,n<=m->eD (exec L T m) (aj T) l s=some s'
 |.nil _,s,s',h=>⟨0,λm _=>h⟩
 |.step _ g l,s,s',h=>by
  simp only[eD] at h⊢;cases h1:eG (ev L T) (aj T) g s with
  |none=>rw[h1] at h;cases h
  |some s1=>rw[h1] at h;obtain⟨n1,js⟩:=Rv h1;obtain⟨n2,hn2⟩:=Ak (l:=l) h;exact⟨max n1 n2,λm hm=>by rw[js m (by omega)];exact hn2 m (by omega)⟩
 |.alt a b,s,s',h=>by
  simp only[eD] at h⊢;unfold same at h;split at h;·rename_i x y hx hy;obtain⟨n1,js⟩:=Ak hx;obtain⟨n2,hn2⟩:=Ak hy;exact⟨max n1 n2,λm hm=>by rw[js m (by omega),hn2 m (by omega)];exact h⟩
  ·cases h
 |.kp _ t,s,s',h=>Ak (l:=t) h
def T4{a:Option ah}{b:Nat->Option ah}(h:∀s,a=some s->∃n,∀m,n<=m->b m=some s){o:Ex×ah}(ho:iV a=some o):∃n,∀m,n<=m->iV (b m)=some o:=by
 cases a with
 |none=>cases ho
 |some s=>obtain⟨n,hn⟩:=h s rfl;exact⟨n,λm hm=>by rw[hn m hm];exact ho⟩
def acF:∀{t:A} {s:ah} {o:Ex×ah},ai (ev L T) (aj T) t s=some o->∃n,∀m,n<=m->eA (exec L T m) (aj T) m t s=some o:=by
 intro t;induction t with
 |skip=>intro s o h;exact⟨0,λm _=>h⟩
 |ret=>intro s o h;exact⟨0,λm _=>h⟩
 |exit id=>intro s o h;exact⟨0,λm _=>h⟩
 |ops l=>intro s o h;exact T4 (λs h=>RA h) h
 |draw l=>intro s o h;exact T4 (λs h=>Ak h) h
 |seq a b iU j9=>
  intro s o h;simp only[ai] at h;simp only[eA];cases hr:ai (ev L T) (aj T) a s with
  |none=>rw[hr] at h;cases h
  |some r=>
   rw[hr] at h;obtain⟨n1,js⟩:=iU hr;obtain⟨e,s1⟩:=r;cases e with
   |normal=>obtain⟨n2,hn2⟩:=j9 (s:=s1) h;exact⟨max n1 n2,λm hm=>by rw[js m (by omega)];exact hn2 m (by omega)⟩
   |exit i=>exact⟨n1,λm hm=>by rw[js m hm];exact h⟩
   |ret=>exact⟨n1,λm hm=>by rw[js m hm];exact h⟩
 |cond c a b iU j9=>
  intro s o h;simp only[ai] at h;simp only[eA];split at h
  ·rename_i t ht;try rw[ht]
   cases t with
   |true=>exact iU h
   |false=>exact j9 h
  ·cases h
 |block id b ih=>
  intro s o h;simp only[ai] at h;simp only[eA];cases hr:ai (ev L T) (aj T) b s with
  |none=>rw[hr] at h;cases h
  |some r=>rw[hr] at h;obtain⟨n1,js⟩:=ih hr;exact⟨n1,λm hm=>by rw[js m hm];exact h⟩
 |pk ks b ih=>
  intro s o h;simp only[ai] at h;simp only[eA];cases hr:ai (ev L T) (aj T) b s with
  |none=>rw[hr] at h;cases h
  |some r=>rw[hr] at h;obtain⟨n1,js⟩:=ih hr;exact⟨n1,λm hm=>by rw[js m hm];exact h⟩
 |loop b ih=>
  intro s o h;simp only[ai] at h;obtain⟨n,hn⟩:=Na h
  have go:∀(n:Nat) (s:ah),iter (ai (ev L T) (aj T) b) n s=some o->∃k,∀m,k<=m->iter (eA (exec L T m) (aj T) m b) n s=some o:=by
   intro n;induction n with
   |zero=>intro s h;cases h
   |succ n ihn=>
    intro s h;simp only[iter] at h⊢;cases hr:ai (ev L T) (aj T) b s with
    |none=>rw[hr] at h;cases h
    |some r=>
     rw[hr] at h;obtain⟨n1,js⟩:=ih hr;obtain⟨e,s1⟩:=r;cases e with
     |normal=>obtain⟨n2,hn2⟩:=ihn s1 h;exact⟨max n1 n2,λm hm=>by rw[js m (by omega)];exact hn2 m (by omega)⟩
     |exit i=>exact⟨n1,λm hm=>by rw[js m hm];exact h⟩
     |ret=>exact⟨n1,λm hm=>by rw[js m hm];exact h⟩
  obtain⟨k,hk⟩:=go n s hn;refine⟨max k n,λm hm=>?_⟩;simp only[eA];exact xK (λ_ _ h=>h) (by omega) (hk m (by omega))
noncomputable def E9(L:cB)(T:iB)(F:Fn)(xs:List X):Option Out:=
 if xs.length=F.n then fin F (ai (ev L T) (aj T) F.body (mZ xs)) else none
def acG{f:FuncId}{F:Fn}(hF:T f=some F)(xs:List X):ev L T f xs=E9 L T F xs:=by
 refine Np (λo h=>?_) λo h=>?_
 ·obtain⟨n,hn⟩:=Fa h;cases n with
  |zero=>cases hn
  |succ n=>
   simp only[exec,hF] at hn;unfold eF at hn;unfold E9;split at hn
   ·rename_i hl;rw[aA hl];cases hr:eA (exec L T n) (aj T) n F.body (mZ xs) with
    |none=>rw[hr] at hn;cases hn
    |some r=>rw[hr] at hn;rw[acz (acH L T n) hr];exact hn
   ·cases hn
 ·unfold E9 at h;split at h
  ·rename_i hl;cases hr:ai (ev L T) (aj T) F.body (mZ xs) with
   |none=>rw[hr] at h;cases h
   |some r=>rw[hr] at h;obtain⟨n,hn⟩:=acF hr;refine Lg (n:=n+1) ?_;simp only[exec,hF,eF,aA hl,hn n (eP n)];exact h
  ·cases h
def mq{f:FuncId}(hF:T f=none)(xs:List X):ev L T f xs=L f xs:=by
 refine Np (λo h=>?_) λo h=>?_
 ·obtain⟨n,hn⟩:=Fa h;cases n with
  |zero=>cases hn
  |succ n=>simpa only[exec,hF] using hn
 ·refine Lg (n:=1) ?_;simpa only[exec,hF] using h
end
end M
namespace M
open Go
section
variable {C:cB}{ok:FuncId->Bool}{T:iB}
@[simp] def ar0(s:ah):ai C ok .skip s=some (.normal,s):=rfl
@[simp] def arY(s:ah):ai C ok .ret s=some (.ret,s):=rfl
@[simp] def arU(i:Nat)(s:ah):ai C ok (.exit i) s=some (.exit i,s):=rfl
@[simp] def arW(l:List G)(s:ah):ai C ok (.ops l) s=iV (j0 C ok l s):=rfl
@[simp] def arT(t:DT)(s:ah):ai C ok (.draw t) s=iV (eD C ok t s):=rfl
@[simp] def arZ(a b:A)(s:ah):ai C ok (.seq a b) s=fE (ai C ok b) (ai C ok a s):=rfl
@[simp] def arR(i:Nat)(b:A)(s:ah):ai C ok (.block i b) s=lf i (ai C ok b s):=rfl
@[simp] def arV(b:A)(s:ah):ai C ok (.loop b) s=aJ (ai C ok b) s:=rfl
@[simp] def arX(ks:List Nat)(b:A)(s:ah):ai C ok (.pk ks b) s=lP ks (ai C ok b s):=rfl
noncomputable def Rf(C:cB)(ok:FuncId->Bool)(a b:A)(s:ah):X->cF
 |.bool t=>if t=true then ai C ok a s else ai C ok b s
 |_=>none
@[simp] def arS(c:AV)(a b:A)(s:ah):ai C ok (.cond c a b) s=Rf C ok a b s (ay s c):=by simp only[ai];cases ay s c<;>rfl
@[simp] def arn(a b:A)(s:ah)(t:Bool):Rf C ok a b s (.bool t)=if t=true then ai C ok a s else ai C ok b s:=rfl
@[simp] def arP(s:ah):j0 C ok [] s=some s:=rfl
@[simp] def arO(g:G)(l:List G)(s:ah):j0 C ok (g::l) s=(eG C ok g s).bind (j0 C ok l):=rfl
@[simp] def arK(ks:List Nat)(s:ah):eD C ok (.nil ks) s=some (keep ks s):=rfl
@[simp] def arL(i:Nat)(g:G)(t:DT)(s:ah):eD C ok (.step i g t) s=(eG C ok g s).bind (eD C ok t):=rfl
@[simp] def arI(a b:DT)(s:ah):eD C ok (.alt a b) s=same (eD C ok a s) (eD C ok b s):=rfl
@[simp] def arJ(ks:List Nat)(t:DT)(s:ah):eD C ok (.kp ks t) s=eD C ok t (keep ks s):=rfl
@[simp] def atg(s:ah):same (some s) (some s)=some s:=by
 have:rM s s=true:=by
  induction s with
  |nil=>rfl
  |cons a l ih=>obtain⟨k,x⟩:=a;simp[rM,X.RG,ih]
 simp[same,this]
@[simp] def aqy(c:Prop)[Decidable c](a b:Option ah)(f:ah->Option ah):(if c then a else b).bind f=if c then a.bind f else b.bind f:=by split<;>rfl
def Fw(C:cB)(ok:FuncId->Bool)(o:cw)(t:Nat)(b:Bool)(s:ah):X->Option ah
 |.bool v=>if v=b then cQ C ok o ((t,.bool b)::s) else some (fV o.dst (.av []) ((t,.bool (!b))::s))
 |.av []=>some (fV o.dst (.av []) s)
 |_=>none
@[simp] def arM(o:cw)(s:ah):eG C ok ⟨none,o⟩ s=cQ C ok o s:=rfl
@[simp] def arN(t:Nat)(b:Bool)(o:cw)(s:ah):eG C ok ⟨some (t,b),o⟩ s=Fw C ok o t b s (get s t):=by simp only[eG];split<;>simp_all[Fw]
@[simp] def asd(o:cw)(t:Nat)(b v:Bool)(s:ah):Fw C ok o t b s (.bool v)=if v=b then cQ C ok o ((t,.bool b)::s) else some (fV o.dst (.av []) ((t,.bool (!b))::s)):=rfl
@[simp] def ase(o:cw)(t:Nat)(b:Bool)(s:ah):Fw C ok o t b s (.av [])=some (fV o.dst (.av []) s):=rfl
@[simp] def as0(s:ah):iV (some s)=some (.normal,s):=rfl
@[simp] def asZ:iV none=none:=rfl
@[simp] def asY(c:Prop)[Decidable c](a b:Option ah):iV (if c then a else b)=if c then iV a else iV b:=by split<;>rfl
@[simp] def aly(k:ah->cF)(s:ah):fE k (some (.normal,s))=k s:=rfl
@[simp] def ati(k:ah->cF)(i:Nat)(s:ah):fE k (some (.exit i,s))=some (.exit i,s):=rfl
@[simp] def atl(k:ah->cF)(s:ah):fE k (some (.ret,s))=some (.ret,s):=rfl
@[simp] def atk(k:ah->cF):fE k none=none:=rfl
@[simp] def atj(k:ah->cF)(c:Prop)[Decidable c](a b:cF):fE k (if c then a else b)=if c then fE k a else fE k b:=by split<;>rfl
@[simp] def aqC(i:Nat)(s:ah):lf i (some (.normal,s))=some (.normal,s):=rfl
@[simp] def aqz(i j:Nat)(s:ah):lf i (some (.exit j,s))=if j=i then some (.normal,s) else some (.exit j,s):=rfl
@[simp] def aqD(i:Nat)(s:ah):lf i (some (.ret,s))=some (.ret,s):=rfl
@[simp] def aqB(i:Nat):lf i none=none:=rfl
@[simp] def aqA(i:Nat)(c:Prop)[Decidable c](a b:cF):lf i (if c then a else b)=if c then lf i a else lf i b:=by split<;>rfl
@[simp] def as9(ks:List Nat)(s:ah):lP ks (some (.normal,s))=some (.normal,keep ks s):=rfl
@[simp] def as6(ks:List Nat)(i:Nat)(s:ah):lP ks (some (.exit i,s))=some (.exit i,s):=rfl
@[simp] def ata(ks:List Nat)(s:ah):lP ks (some (.ret,s))=some (.ret,s):=rfl
@[simp] def as8(ks:List Nat):lP ks none=none:=rfl
@[simp] def as7(ks:List Nat)(c:Prop)[Decidable c](a b:cF):lP ks (if c then a else b)=if c then lP ks a else lP ks b:=by split<;>rfl
def uo(rs:List RV)(n:Nat):cF->Option Out
 |some (.exit _,_)=>none
 |some (_,s)=>if X.clean.cJ (ek rs s).1=true/\(ek rs s).1.any X.mI=false then some (vm (ek rs s).1,qA 0 n (ek rs s).2) else none
 |none=>none
def Ll(rs:List RV)(n:Nat)(s:ah):Option Out:=if X.clean.cJ (ek rs s).1=true/\(ek rs s).1.any X.mI=false then some (vm (ek rs s).1,qA 0 n (ek rs s).2) else none
def aq{L:cB}{T:iB}{f:FuncId}{b:A}{rs:List RV}{n:Nat}(h:T f=some ⟨b,rs,n⟩){xs:List X}(hl:xs.length=n):ev L T f xs=uo rs n (ai (ev L T) (aj T) b (mZ xs)):=by rw[acG h];unfold E9;rw[aA hl];rfl
@[simp] def asc(rs:List RV)(n:Nat)(s:ah):uo rs n (some (.ret,s))=Ll rs n s:=rfl
@[simp] def asb(rs:List RV)(n:Nat)(s:ah):uo rs n (some (.normal,s))=Ll rs n s:=rfl
@[simp] def asa(rs:List RV)(n:Nat):uo rs n none=none:=rfl
@[simp] def ar9(rs:List RV)(n:Nat)(c:Prop)[Decidable c](a b:cF):uo rs n (if c then a else b)=if c then uo rs n a else uo rs n b:=by split<;>rfl
@[simp] def atd(d:Option Nat)(s:ah)(r:X)(ps:List X):qB d s (some (r,ps))=some (fV d r s):=rfl
@[simp] def atc(d:Option Nat)(s:ah):qB d s none=none:=rfl
@[simp] def atb(d:Option Nat)(s:ah)(c:Prop)[Decidable c](a b:Option Out):qB d s (if c then a else b)=if c then qB d s a else qB d s b:=by split<;>rfl
end
attribute [simp] Ll cQ mZ DE DF ek qA post vm X.mI X.clean X.clean.cJ X.clean.bK keep Jo EG rD wK
end M
namespace M
open Go
def wQ(z bytes:Nat):A:=(.seq (.pk [0] (.ops [⟨none,.aU 2 .aQ (.k (.row .own z []))⟩])) (.seq (.seq (.pk [0,4] (.ops [⟨none,.mv 3 (.t 0)⟩,⟨none,.sU 4 false (.t 3)⟩])) (.pk [0] (.cond (.t 4) (.seq (.pk [2,7] (.ops [⟨none,.aU 2 .aQ (.k (.row .own z []))⟩])) .ret) .skip))) (.seq (.pk [2,7] (.ops [⟨none,.lit 5 .mv z []⟩,⟨none,.mv 6 (.t 0)⟩,⟨none,.app 7 .al z bytes (.t 5) (.t 6)⟩,⟨none,.aU 2 .aQ (.t 7)⟩])) .ret)))
def Q9:∀{rows:List (List X)},fP rows=true->X.clean.bK rows=true
 |[],_=>rfl
 |e::l,h=>by
  simp only[fP,aC,pJ] at h
  have h1:X.clean.cJ e=true:=by
   have h2:=h.1;clear h;induction e with
   |nil=>rfl
   |cons x e ih=>have hx:=h2 x (bH ..);have he:=ih λy hy=>h2 y (cl _ hy);cases x<;>simp_all[scalar,X.clean.cJ,X.clean]
  simp only[X.clean.bK,h1,Q9 h.2,Bool.and_self]
def abY[Bs]{P:Program}{f:FuncId}{z bytes:Nat}(hT:Told P f (wQ z bytes) [.t 2] 1){rows:List (List X)}(h1:rows.length*bytes<=140737488355328)(h2:fP rows=true)(h4:kn rows=true\/rows=[]):
  AC P f [.row .af z rows] λr ps=>r=.row .own z rows/\ps=[.dead]:=by
 refine hT.ac rfl ?_;have h3:=Om h2;have h5:=Q9 h2;simp[wQ,e9,kA,pO,aV,base,Ends,h1,h3,h5];intro h6;rcases h4 with h4|h4;·rw[h4] at h6;cases h6
 ·subst h4;simp
def jk(f0 z bytes:Nat):cB:=λf xs=>if f=f0 then (match xs with
 |[.row .af z' rows]=>if z'=z/\rows.length*bytes<=140737488355328/\fP rows=true/\(kn rows=true\/rows=[]) then some (.row .own z rows,[.dead]) else none
 |_=>none) else none
def KY[Bs]{P:Program}{f0 z bytes:Nat}(hT:Told P f0 (wQ z bytes) [.t 2] 1):(jk f0 z bytes).Sound P:=λf xs o h=>by
 unfold jk at h;split at h
 ·rename_i hf;subst hf;split at h
  ·split at h;·rename_i hc;obtain⟨rfl,c1,c2,c3⟩:=hc;cases h;exact abY hT c1 c2 c3
   ·cases h
  ·cases h
 ·cases h
def fN(L L':cB):cB:=λf xs=>match L f xs with
 |some o=>some o
 |none=>L' f xs
def oT[Bs]{P:Program}{L L':cB}(h:L.Sound P)(h':L'.Sound P):(fN L L').Sound P:=λf xs o e=>by
 unfold fN at e;split at e;·rename_i o' e';cases e;exact h f xs _ e'
 ·exact h' f xs _ e
end M
namespace M
open Go
def sv:X->Value
 |.int k n=>.int k n
 |.bool b=>.bool b
 |.str s=>.string s
 |_=>undef
def alo{c:C}(h:scalar c.er=true):c.val=sv c.er:=by cases c<;>first|rfl|(simp[C.er,scalar] at h)
def DI:X->Bool
 |.str s=>decide (s.size<=9223372036854775807)
 |x=>scalar x
def jy(f0:FuncId)(g:List X->Option X):cB:=λf xs=>if f=f0 then (match g xs with
 |some r=>if xs.all scalar=true/\DI r=true then some (r,xs.map λ_=>.dead) else none
 |none=>none) else none
end M
namespace M
open Go Go.Sort
def om[B:Bs](w:World):Prop:=∀b,b<B.W0.heap.size->w.heap[b]?=B.W0.heap[b]?
def YN[Bs]{P:Program}{f:FuncId}{xs:List X}{r:X}(hx:∀x∈xs,scalar x=true)(hr:DI r=true)
  (h:∀w,om w->Calls P f (xs.map sv).toArray w λe w'=>e=.returned (sv r)/\∃k os,w'=grow (w.drewN k) os):AC P f xs λr' ps=>r'=r/\ps=xs.map λ_=>.dead:=by
 intro w zl zb cs e hA mD;have hv:cs.map C.val=xs.map sv:=by rw[<-e,cS];exact cm λc hc=>alo (hx _ (e▸fR hc))
 rw[hv];refine(h w λb hb=>(mD b hb).1).mono λe' w' ⟨he,k,os,hw⟩=>?_;subst hw;have hsz:w.heap.size<=(grow (w.drewN k) os).heap.size:=by simp[grow,World.drewN]
 have hs:∃c:C,c.er=r/\c.val=sv r/\c.ok (grow (w.drewN k) os) (Zf zl λ_ _=>False)/\c.bare/\∀b k,¬c.fp b k:=by
  cases r with
  |int k n=>exact⟨.int k n,rfl,rfl,trivial,trivial,λ_ _ h=>h⟩
  |bool b=>exact⟨.bool b,rfl,rfl,trivial,trivial,λ_ _ h=>h⟩
  |str s=>exact⟨.str s,rfl,rfl,by simp[DI] at hr;exact hr,trivial,λ_ _ h=>h⟩
  |_=>simp[DI,scalar] at hr
 obtain⟨c,c1,c2,c3,c4,c5⟩:=hs;have LN:Ext (λb k=>∃x∈cs,x.fp b k) w (grow (w.drewN k) os):=⟨rfl,rfl,rfl,hsz,λb hb=>.inl (by show (w.heap++os)[b]?=w.heap[b]?;exact Pu hb)⟩
 refine⟨c,cs.map λx=>.dead x.val,zl,⟨by rw[he,c2],by rw[cS];rfl,LN,⟨λx hx'=>?_,λx hx'=>?_,λx hx' b k hf=>?_,λb k hz=>kV (hA.cL b k (hz.imp id λh=>h.elim)) hsz,?_⟩,λx hx' b k hf=>?_,λ_ _ h=>h,λ_ _ h=>.inl h⟩,c1,?_⟩
 ·rcases ck.1 hx' with rfl|hx';·exact c3
  ·obtain⟨y,_,rfl⟩:=bw.1 hx';trivial
 ·rcases ck.1 hx' with rfl|hx';·exact c4
  ·obtain⟨y,_,rfl⟩:=bw.1 hx';trivial
 ·rcases ck.1 hx' with rfl|hx';·exact(c5 b k hf).elim
  ·obtain⟨y,_,rfl⟩:=bw.1 hx';exact hf.elim
 ·refine fG.2 ⟨λx _ b k hf=>(c5 b k hf).elim,?_⟩;refine vR.2 λi j hi hj _ b k hf=>?_;obtain⟨y,_,hy⟩:=bw.1 (bh hi);rw[<-hy] at hf;exact hf.elim
 ·rcases ck.1 hx' with rfl|hx';·exact(c5 b k hf).elim
  ·obtain⟨y,_,rfl⟩:=bw.1 hx';exact hf.elim
 ·rw[<-e];simp[cS,kZ,C.er]
def ag4[Bs]{P:Program}{f0:FuncId}{g:List X->Option X}(h:∀xs r,g xs=some r->∀w,om w->Calls P f0 (xs.map sv).toArray w λe w'=>e=.returned (sv r)/\∃k os,w'=grow (w.drewN k) os):(jy f0 g).Sound P:=λf xs o e=>by
 unfold jy at e;split at e
 ·rename_i hf;subst hf;split at e
  ·rename_i r hr;split at e;·rename_i hc;cases e;exact YN (pJ.1 hc.1) hc.2 (h xs r hr)
   ·cases e
  ·cases e
 ·cases e
def TabIs.same[B:Bs]{P:Program}{w:World}{n:String}{k:IntKind}{zs:List Int}(h:Lib.TabIs P B.W0 n k zs)(hw:om w):Lib.TabIs P w n k zs:=by
 unfold Lib.TabIs World.var? at h⊢;cases hg:P.globalNamed n with
 |none=>rw[hg] at h;cases h
 |some g=>
  rw[hg] at h;simp only[gw] at h⊢
  have hlt:g<B.W0.heap.size:=by
   rcases iL g B.W0.heap.size with h'|h';·exact h'
   ·rw[l9 h'] at h;cases h
  rw[hw g hlt];exact h
def als{P:Program}{W:World}{name:String}{k:IntKind}{zs:List Int}{g:Nat}{t e:TypeId}{n:Nat}
  (hg:P.globalNamed name=some g)(hty:(P.globals[g]?).map (·.type)=some t)(ht:P.underlying t=some (.array n e))(he:P.underlying e=some (.int k))(hce:P.cellsOf e=1)(hct:P.cellsOf t=n):
  ∀{l:List (String×DataW Unit)} {ps:List MemPlace},DataW.LaidVars P W l ps->(name,Lib.tabData k zs)∈l->Lib.TabIs P W name k zs
 |[],_,_,h=>by cases h
 |(nm,d)::l,ps,h,hm=>by
  obtain⟨g',t',cs,fuel,p,q,hg',ht',hvar,hd,hr,_⟩:=h;rcases ck.1 hm with hm|hm;·obtain⟨rfl,rfl⟩:=Ei hm;obtain rfl:=iz (hg.symm.trans hg');obtain rfl:=iz (hty.symm.trans ht');unfold Lib.TabIs;rw[hvar,<-Lib.cells_of_tab ht he hce hct hd]
  ·exact als hg hty ht he hce hct hr hm
end M
namespace M
open Go
def lv:Ex×ah->cF
 |(.normal,_)=>none
 |(.ret,s)=>some (.ret,s)
 |(.exit i,s)=>some (.exit i,s)
def mO{β γ:Type}(go:β->γ->γ ⊕ (Ex×ah)):List β->γ->γ ⊕ (Ex×ah)
 |[],g=>.inl g
 |b::l,g=>match go b g with
  |.inl g'=>mO go l g'
  |.inr o=>.inr o
def HD{xt:Nat}{β γ:Type}{f:ah->cF}(l:List β)(st:Nat->γ->ah)(go:β->γ->γ ⊕ (Ex×ah))(E:γ->ah)(Inv:Nat->γ->Prop)(g:γ)(h0:Inv 0 g)
  (h:∀i b g,l[i]?=some b->i<l.length->Inv i g->f (st i g)=(match go b g with|.inl g'=>some (.normal,st (i+1) g')|.inr o=>lv o))
  (hI:∀i b g g',l[i]?=some b->Inv i g->go b g=.inl g'->Inv (i+1) g')
  (hend:∀g,Inv l.length g->f (st l.length g)=some (.exit xt,E g)):
  aJ f (st 0 g)=match mO go l g with|.inl g'=>some (.exit xt,E g')|.inr o=>lv o:=by
 suffices H:∀(r:List β) (i:Nat) (g:γ),Inv i g->l.drop i=r->i<=l.length->aJ f (st i g)=match mO go r g with|.inl g'=>some (.exit xt,E g')|.inr o=>lv o from H l 0 g h0 rfl (tH _)
 intro r;induction r with
 |nil=>
  intro i g hi hr hl;have:i=l.length:=by have:=dF List.length hr;simp at this;omega
  subst this;rw[dV,hend g hi];rfl
 |cons b r ih=>
  intro i g hi hr hl
  have hlt:i<l.length:=by
   rcases iL i l.length with h|h;·exact h
   ·rw[Pv h] at hr;cases hr
  have hb:l[i]?=some b:=by have:=qV hlt;rw[hr] at this;rw[cv hlt];cases this;rfl
  have hr':l.drop (i+1)=r:=by have:=qV hlt;rw[hr] at this;cases this;rfl
  rw[dV,h i b g hb hlt hi];unfold mO;cases hg:go b g with
  |inl g'=>exact ih (i+1) g' (hI i b g g' hb hi hg) hr' hlt
  |inr o=>obtain⟨e,s⟩:=o;cases e<;>simp[fE,lv]
def aN{α:Type}(p:α->Bool)(l:List α):Bool:=l.all p
def ji{α:Type}{p:α->Bool}{l:List α}:aN p l=true↔∀x∈l,p x=true:=pJ
def cW{xt:Nat}{β:Type}{f:ah->cF}(l:List β)(st:Nat->ah)(p:β->Bool)(R E:ah)
  (h:∀i b,l[i]?=some b->i<l.length->f (st i)=if p b=true then some (.normal,st (i+1)) else some (.ret,R))
  (hend:f (st l.length)=some (.exit xt,E)):
  aJ f (st 0)=if aN p l=true then some (.exit xt,E) else some (.ret,R):=by
 show _=if l.all p=true then _ else _
 have H:=HD (f:=f) l (λi (_:Unit)=>st i) (λb _=>if p b=true then .inl () else .inr (.ret,R)) (λ_=>E) (λ_ _=>True) () trivial
  (λi b g hb hl _=>by rw[h i b hb hl];by_cases hp:p b=true<;>simp[hp,lv]) (λ_ _ _ _ _ _ _=>trivial) λ_ _=>hend
 refine H.trans ?_
 have:∀r:List β,mO (λb (_:Unit)=>if p b=true then .inl () else .inr (Ex.ret,R)) r ()=if r.all p=true then .inl () else .inr (.ret,R):=by
  intro r;induction r with
  |nil=>rfl
  |cons b r ih=>
   simp only[mO];by_cases hp:p b=true;·simp[hp,ih]
   ·simp[hp]
 rw[this];by_cases hp:l.all p=true<;>simp[hp,lv]
def HC{xt:Nat}{β γ:Type}{f:ah->cF}(l:List β)(st:Nat->γ->ah)(go:γ->β->γ)(E:γ->ah)(Inv:Nat->γ->Prop)(g:γ)(h0:Inv 0 g)
  (h:∀i b g,l[i]?=some b->i<l.length->Inv i g->f (st i g)=some (.normal,st (i+1) (go g b)))
  (hI:∀i b g,l[i]?=some b->Inv i g->Inv (i+1) (go g b))
  (hend:∀g,Inv l.length g->f (st l.length g)=some (.exit xt,E g)):
  aJ f (st 0 g)=some (.exit xt,E (l.foldl go g)):=by
 refine(HD (f:=f) l st (λb g=>.inl (go g b)) E Inv g h0 h (λi b g g' hb hi e=>by cases e;exact hI i b g hb hi) hend).trans ?_
 have:∀(r:List β) (g:γ),mO (λb g=>.inl (go g b)) r g=(.inl (r.foldl go g):γ ⊕ (Ex×ah)):=by
  intro r;induction r with
  |nil=>intro g;rfl
  |cons b r ih=>intro g;simp only[mO,qW];exact ih _
 rw[this]
def nM{xt:Nat}{β:Type}{f:ah->cF}(l:List β)(st:Nat->ah)(E:ah)
  (h:∀i b,l[i]?=some b->i<l.length->f (st i)=some (.normal,st (i+1)))
  (hend:f (st l.length)=some (.exit xt,E)):aJ f (st 0)=some (.exit xt,E):=
 HC l (λi (_:Unit)=>st i) (λ_ _=>()) (λ_=>E) (λ_ _=>True) () trivial (λi b _ hb hl _=>h i b hb hl) (λ_ _ _ _ _=>trivial) λ_ _=>hend
def bC{n:Int}(h1:-9223372036854775808<=n)(h2:n<=9223372036854775807):IntKind.i64.wrap n=n:=by simp only[IntKind.wrap,IntKind.signed,IntKind.bits,Pr,bD];split<;>rename_i h<;>simp at h<;>omega
def aO(n:Nat)(h:n<9223372036854775807):IntKind.i64.wrap (↑n+1)=↑n+1:=bC (by omega) (by omega)
attribute [simp] base Jb iu look Dz vJ yg EU HL CI kQ iJ
abbrev ag:=List UInt8
@[simp] def ath(s:ag):ByteArray.size ⟨s.toArray⟩=s.length:=by simp[ByteArray.size]
@[simp] def str_inj(s t:ag):((⟨s.toArray⟩:ByteArray)=⟨t.toArray⟩)↔s=t:=by
 constructor
 ·intro h;injection h with h
  simpa using dF Array.toList h
 ·rintro rfl;rfl
def iY(s t:ag):(⟨s.toArray⟩:ByteArray)++⟨t.toArray⟩=⟨(s++t).toArray⟩:=by apply ByteArray.ext;rw[ByteArray.data_append];simp
@[simp] def eS(s:ag):List X:=[.str ⟨s.toArray⟩]
structure Wr where
 at_:Int
 text:ag
 deriving DecidableEq
structure bq where
 cells:List ag
 pending:List Wr
 deriving DecidableEq
@[simp] def eW(w:Wr):List X:=[.int .i64 w.at_,.str ⟨w.text.toArray⟩]
@[simp] def bW(m:Md)(d:bq):List X:=[.row m 1 (d.cells.map eS),.row m 2 (d.pending.map eW)]
@[simp] def asS(m:Md)(l:List ag):X.cg m (l.map eS)=l.map eS:=by induction l<;>simp_all[X.cg,X.ey,X.md]
@[simp] def asW(m:Md)(l:List Wr):X.cg m (l.map eW)=l.map eW:=by induction l<;>simp_all[X.cg,X.ey,X.md]
@[simp] def aq5(l:List ag):X.clean.bK (l.map eS)=true:=by induction l<;>simp_all[X.clean.bK,X.clean.cJ,X.clean]
@[simp] def aq9(l:List Wr):X.clean.bK (l.map eW)=true:=by induction l<;>simp_all[X.clean.bK,X.clean.cJ,X.clean]
def fo{α:Type}(f:α->Int->Int):List α->Int->Int
 |[],n=>n
 |a::l,n=>if f a n<0 then -1 else fo f l (f a n)
def sN{xt:Nat}{β:Type}{f:ah->cF}(l:List β)(st:Nat->Int->ah)(z:β->Int->Int)(R:ah)(E:Int->ah)(n:Int)(hn:0<=n)(hm:n<=9223372036854775807)
  (hz:∀a n,z a n<=n\/z a n<0)
  (h:∀i b n,l[i]?=some b->i<l.length->0<=n->n<=9223372036854775807->f (st i n)=if z b n<0 then some (.ret,R) else some (.normal,st (i+1) (z b n)))
  (hend:∀n,f (st l.length n)=some (.exit xt,E n)):
  aJ f (st 0 n)=if fo z l n<0 then some (.ret,R) else some (.exit xt,E (fo z l n)):=by
 have H:=HD (f:=f) l st (λb n=>if z b n<0 then .inr (.ret,R) else .inl (z b n)) E (λ_ n=>0<=n/\n<=9223372036854775807) n ⟨hn,hm⟩
  (λi b n hb hl hi => by rw[h i b n hb hl hi.1 hi.2]; by_cases hp : z b n < 0 <;> simp[hp, lv]) (λi b g g' hb hi hg=>by
   by_cases hp:z b g<0;·simp[hp] at hg
   ·simp[hp] at hg;have:=hz b g;omega) λg _=>hend g
 refine H.trans ?_
 have:∀(r:List β) (n:Int),0<=n->mO (λb n=>if z b n<0 then .inr (Ex.ret,R) else .inl (z b n)) r n=if fo z r n<0 then .inr (.ret,R) else .inl (fo z r n):=by
  intro r;induction r with
  |nil=>intro n hn;rw[aE (by simp[fo];omega)];rfl
  |cons b r ih=>
   intro n hn;simp only[mO,fo];by_cases hp:z b n<0;·simp[hp]
   ·simp only[hp,di];exact ih _ (by omega)
 rw[this l n hn];by_cases hp:fo z l n<0<;>simp[hp,lv]
def ajd{α β:Type}(l:List α)(e:α->β)(z:β)(g:β->β){i:Nat}(hi:i<l.length)(hg:g z=e l[i]):
  ((l.take i).map e++List.replicate (l.length - i) z).modify i g=(l.take (i+1)).map e++List.replicate (l.length - (i+1)) z:=by
 apply gP;intro j;rw[tJ];rcases Nat.lt_trichotomy j i with h|h|h;·rw[og (by simp;omega),og (by simp;omega)];simp only[dm,List.getElem?_take,aA h,aA (Nat.lt_succ_of_lt h),aE (Nat.ne_of_gt h)];cases l[j]?<;>rfl
 ·subst h;rw[iM (by simp;omega),og (by simp;omega)];have:j - ((l.take j).map e).length=0:=by simp;omega
  rw[this,Wx (by omega)];simp only[dm,List.getElem?_take,aA (Nat.lt_succ_self j),cv hi,cN,cq,<-hg];rfl
 ·rw[iM (by simp;omega),iM (by simp;omega)];have h1:j - ((l.take i).map e).length=j - i:=by simp;omega
  have h2:j - ((l.take (i+1)).map e).length=j - (i+1):=by simp;omega
  rw[h1,h2,PA,PA];by_cases h3:j<l.length;·rw[aA (by omega),aA (by omega)];simp only[Nat.ne_of_lt h,di];rfl
  ·rw[aE (by omega),aE (by omega)];rfl
def eu(rows:List (List X))(i:Nat)(z:List X):List (List X):=rows.take i++List.replicate (rows.length - i) z
@[simp] def ar7(rows:List (List X))(i:Nat)(z:List X):(eu rows i z).length=rows.length:=by simp[eu];omega
@[simp] def acM(rows:List (List X))(i:Nat)(z:List X)(h:i<rows.length):(eu rows i z)[i]?=some z:=by unfold eu;rw[iM (by simp;omega),Wx (by simp;omega)]
@[simp] def ar6(rows:List (List X))(i:Nat)(z:List X)(h:i<(eu rows i z).length):(eu rows i z)[i]=z:=by
 have h':i<rows.length:=by simpa using h
 have:=acM rows i z h';rw[cv h] at this;exact iz this
@[simp] def ar8(rows:List (List X))(z:List X):eu rows 0 z=List.replicate rows.length z:=by simp[eu]
@[simp] def ar5(rows:List (List X))(i:Nat)(z:List X)(h:i=rows.length):eu rows i z=rows:=by subst h;simp[eu]
@[simp] def iS(rows:List (List X))(i:Nat)(z:List X)(g:List X->List X)(h:i<rows.length)(hg:g z=rows[i]):(eu rows i z).modify i g=eu rows (i+1) z:=by have:=ajd rows id z g h (by simpa using hg);simpa [eu] using this
def qw{α:Type}(l:List α)(i:Nat)(f g:α->α):(l.modify i f).modify i g=l.modify i λx=>g (f x):=by
 apply gP;intro j;simp only[tJ];by_cases h:i=j;·simp only[h,cN];cases l[j]?<;>rfl
 ·simp only[h,di];cases l[j]?<;>rfl
def mc{α β:Type}:∀{a:List α} {b:List β},a.length=b.length->∃ps:List (α×β),a=ps.map Prod.fst/\b=ps.map Prod.snd
 |[],[],_=>⟨[],rfl,rfl⟩
 |x::a,y::b,h=>by obtain⟨ps,h1,h2⟩:=mc (a:=a) (b:=b) (by simpa using h);exact⟨(x,y)::ps,by simp[<-h1],by simp[<-h2]⟩
 |[],_::_,h=>by cases h
 |_::_,[],h=>by cases h
def cD{α:Type}[DecidableEq α](x:α×α):Bool:=decide (x.1=x.2)
def ld{α:Type}[DecidableEq α]:∀ps:List (α×α),aN cD ps=decide (ps.map Prod.fst=ps.map Prod.snd)
 |[]=>rfl
 |x::ps=>by have:=ld ps;unfold aN at this⊢;simp only[List.all_cons,this,cD,bE,vZ];exact(Bool.decide_and ..).symm
def aiS{xt:Nat}{β:Type}{f:ah->cF}(l:List β)(st:Int->ah)(p:β->Bool)(R:β->ah)(E:ah)
  (h:∀(i:Nat) b,l[i]?=some b->i<l.length->f (st i)=if p b=true then some (.ret,R b) else some (.normal,st (i - 1)))
  (hend:f (st (-1))=some (.exit xt,E)):
  aJ f (st (l.length - 1))=(l.reverse.find? p).elim (some (.exit xt,E)) (λb=>some (.ret,R b)):=by
 suffices H:∀k,k<=l.length->aJ f (st ((k:Int) - 1))=((l.take k).reverse.find? p).elim (some (.exit xt,E)) (λb=>some (.ret,R b)) by have:=H l.length (eP _);rwa [qR] at this
 intro k;induction k with
 |zero=>intro _;rw[dV];simp[hend]
 |succ k ih=>
  intro hk;have hb:l[k]?=some l[k]:=cv hk;have e:((k+1:Nat):Int) - 1=(k:Int):=by omega
  rw[e,dV,h k _ hb hk,List.take_add_one,hb];simp only[Option.toList_some,Pd,List.reverse_cons,List.reverse_nil,e7,Wk,List.find?_cons];by_cases hp:p l[k]=true;·simp[hp]
  ·simp only[hp,fS,di,aly];exact ih (by omega)
def cU(d:bq)(a:Int):ag:=d.pending.foldl (λout w=>if w.at_=a then w.text else out) (d.cells.getD a.toNat [])
def Ls(a:Int):∀(l:List Wr) (x:ag),l.foldl (λout w=>if w.at_=a then w.text else out) x=(l.reverse.find? (λw=>decide (w.at_=a))).elim x Wr.text
 |[],x=>rfl
 |w::l,x=>by
  rw[qW,Ls a l,List.reverse_cons,List.find?_append];cases l.reverse.find? (λw=>decide (w.at_=a)) with
  |some v=>rfl
  |none=>by_cases h:w.at_=a<;>simp[h]
def ox(new old:List (List X))(i:Nat):List (List X):=new.take i++old.drop i
@[simp] def RJ(new old:List (List X))(i:Nat)(h:new.length=old.length):(ox new old i).length=old.length:=by simp[ox];omega
@[simp] def acL(new old:List (List X))(i:Nat)(h:new.length=old.length)(hi:i<old.length):(ox new old i)[i]?=old[i]?:=by unfold ox;rw[iM (by simp;omega),pK];congr 1;simp;omega
@[simp] def ar3(new old:List (List X))(i:Nat)(hl:i<(ox new old i).length)(h:new.length=old.length):(ox new old i)[i]=old[i]'(by rw[RJ _ _ _ h] at hl;exact hl):=by
 have hi:i<old.length:=by rw[RJ _ _ _ h] at hl;exact hl
 have:=acL new old i h hi;rw[cv hl,cv hi] at this;exact iz this
@[simp] def ar4(new old:List (List X)):ox new old 0=old:=by simp[ox]
@[simp] def ar2(new old:List (List X))(i:Nat)(h:new.length=old.length)(hi:i=old.length):ox new old i=new:=by subst hi;rw[<-h];simp[ox];omega
def qu(n:Nat)(out:ag):ag:=if h:n=0 then out else qu (n / 10) (UInt8.ofNat (48+n%10)::out)
termination_by n
decreasing_by omega
def Cn(k:Int):ag:=if k<=0 then [109,48] else 109::qu k.toNat []
def Co(n:Nat)(k:Int):List ag:=(List.range n).map λ(i:Nat)=>Cn (k+i)
def Cp(n:Nat)(k:Int):List Wr:=(List.range n).map λ(i:Nat)=>⟨k+2*i,Cn (k+2*i+1)⟩
@[simp] def asC(n:Nat)(k:Int):(Co n k).length=n:=by simp[Co]
@[simp] def asE(n:Nat)(k:Int):(Cp n k).length=n:=by simp[Cp]
@[simp] def asB(n:Nat)(k:Int)(i:Nat)(h:i<(Co n k).length):(Co n k)[i]=Cn (k+i):=by simp[Co]
@[simp] def asD(n:Nat)(k:Int)(i:Nat)(h:i<(Cp n k).length):(Cp n k)[i]=⟨k+2*i,Cn (k+2*i+1)⟩:=by simp[Cp]
def foldI{β γ:Type}(go:Nat->γ->β->γ):Nat->List β->γ->γ
 |_,[],g=>g
 |i,b::l,g=>foldI go (i+1) l (go i g b)
def ic{xt:Nat}{β γ:Type}{f:ah->cF}(l:List β)(st:Nat->γ->ah)(go:Nat->γ->β->γ)(E:γ->ah)(Inv:Nat->γ->Prop)(g:γ)(h0:Inv 0 g)
  (h:∀i b g,l[i]?=some b->i<l.length->Inv i g->f (st i g)=some (.normal,st (i+1) (go i g b)))
  (hI:∀i b g,l[i]?=some b->Inv i g->Inv (i+1) (go i g b))
  (hend:∀g,Inv l.length g->f (st l.length g)=some (.exit xt,E g)):
  aJ f (st 0 g)=some (.exit xt,E (foldI go 0 l g)):=by
 suffices H:∀(r:List β) (i:Nat) (g:γ),Inv i g->l.drop i=r->i<=l.length->aJ f (st i g)=some (.exit xt,E (foldI go i r g)) from H l 0 g h0 rfl (tH _)
 intro r;induction r with
 |nil=>
  intro i g hi hr hl;have:i=l.length:=by have:=dF List.length hr;simp at this;omega
  subst this;rw[dV,hend g hi];rfl
 |cons b r ih=>
  intro i g hi hr hl
  have hlt:i<l.length:=by
   rcases iL i l.length with h|h;·exact h
   ·rw[Pv h] at hr;cases hr
  have hd:=qV hlt;rw[hr] at hd;have hb:l[i]?=some b:=by rw[cv hlt];cases hd;rfl
  have hr':l.drop (i+1)=r:=by cases hd;rfl
  rw[dV,h i b g hb hlt hi];exact ih (i+1) _ (hI i b g hb hi) hr' hlt
def hU(k:Nat->Bool)(i:Nat)(cs:List ag)(w:Wr):List ag:=if k i=true then cs.set w.at_.toNat w.text else cs
def nJ(k:Nat->Bool)(cs:List ag)(ws:List Wr):List ag:=foldI (hU k) 0 ws cs
def Hw(k:Nat->Bool)(i:Nat)(cs:List ag)(w:Wr):(hU k i cs w).length=cs.length:=by unfold hU;split<;>simp
def R7(k:Nat->Bool):∀(ws:List Wr) (i:Nat) (cs:List ag),(foldI (hU k) i ws cs).length=cs.length
 |[],_,_=>rfl
 |w::ws,i,cs=>by rw[foldI,R7 k ws,Hw]
def TA(k:Nat->Bool)(cs:List ag)(ws:List Wr):(nJ k cs ws).length=cs.length:=R7 k ws 0 cs
@[simp] def asX(cs:List ag)(n:Nat)(t:ag):(cs.map eS).modify n (λx=>x.set 0 (X.str ⟨t.toArray⟩))=(cs.set n t).map eS:=by
 apply gP;intro j;rw[tJ,dm,dm,wg];by_cases h:n=j
 ·subst h;simp only[cN];by_cases h2:n<cs.length;·simp[h2]
  ·simp[h2,k7 (Nat.le_of_not_lt h2)]
 ·simp only[h,di];cases cs[j]?<;>rfl
def gG(keep:List Bool)(all:Bool)(i:Nat):Bool:=all||keep.getD i false
@[simp] def eB(b:Bool):List X:=[.bool b]
@[simp] def asG(m:Md)(l:List Bool):X.cg m (l.map eB)=l.map eB:=by induction l<;>simp_all[X.cg,X.ey,X.md]
@[simp] def aqT(l:List Bool):X.clean.bK (l.map eB)=true:=by induction l<;>simp_all[X.clean.bK,X.clean.cJ,X.clean]
def On(l:List ag):fP (l.map eS)=true:=by induction l<;>simp_all[fP,scalar]
def U4(l:List Wr):fP (l.map eW)=true:=by induction l<;>simp_all[fP,scalar]
attribute [simp] On U4
@[simp] def aqS(a b:List (List X)):X.clean.bK (a++b)=(X.clean.bK a && X.clean.bK b):=by
 induction a with
 |nil=>simp[X.clean.bK]
 |cons e a ih=>simp[X.clean.bK,ih,kr]
@[simp] def asF(m:Md)(a b:List (List X)):X.cg m (a++b)=X.cg m a++X.cg m b:=by
 induction a with
 |nil=>simp[X.cg]
 |cons e a ih=>simp[X.cg,ih]
structure pM where
 code:List UInt8
 i:Nat
 h:Int
 hi:i<=code.length
 hl:code.length<=9223372036854775807
@[simp] def eU(b:UInt8):List X:=[.int .u8 (b.toNat:Int)]
@[simp] def asV(m:Md)(l:List UInt8):X.cg m (l.map eU)=l.map eU:=by induction l<;>simp_all[X.cg,X.ey,X.md]
@[simp] def aq8(l:List UInt8):X.clean.bK (l.map eU)=true:=by induction l<;>simp_all[X.clean.bK,X.clean.cJ,X.clean]
def kD(c:pM):List X:=[.row .sl 1 (c.code.map eU),.int .i64 c.i,.int .i64 c.h]
@[simp] def arF(c:pM):(kD c).length=3:=rfl
@[simp] def arH(c:pM):(kD c).take 3=kD c:=rfl
@[simp] def arC(c:pM):(kD c).drop 3=[]:=rfl
@[simp] def arG(ks:List Nat)(c:pM):X.oS ks (kD c)=kD c:=rfl
@[simp] def arD(r:Nat)(p:Path)(c:pM):X.hO r p (kD c)=kD c:=rfl
@[simp] def arE(r:Nat)(p:Path)(c:pM):X.qn r p (kD c)=kD c:=rfl
@[simp] def arB(c:pM):X.clean.cJ (kD c)=true:=by simp[kD,X.clean.cJ,X.clean]
@[simp] def arA(c:pM):X.bare.jE (kD c)=true:=by simp[kD,X.bare.jE,X.bare]
end M
namespace M
open Go Go.RowKit
inductive Ty where
 |int (k:IntKind)
 |bool
 |str
 |row (ts:List Ty)
inductive jg:Ty->X->Prop
 |int {k n}:(Lit.int k n).wf=true->jg (.int k) (.int k n)
 |bool {b}:jg .bool (.bool b)
 |str {s:ByteArray}:s.size<=maxLen->jg .str (.str s)
 |row {ts xs}:xs.length<=maxLen->(∀r:List X,r∈xs->r.length=ts.length)->(∀(r:List X),r∈xs->∀(j:Nat) ty x,ts[j]?=some ty->r[j]?=some x->jg ty x)->jg (.row ts) (.row .sl ts.length xs)
structure Eu (w:World) (ty:Ty) (c:C):Prop where
 cell:c.cell
 cZ:c.cZ
 fits:c.fits .sl
 ok:c.ok w (Zf (λb _=>b<w.heap.size) λ_ _=>False)
 fp:∀b k,¬c.fp b k
 Af:jg ty c.er
def lg(w:World):List Ty->List Value->List C->Prop
 |[],[],[]=>True
 |ty::ts,v::vs,c::cs=>c.val=v/\Eu w ty c/\lg w ts vs cs
 |_,_,_=>False
def Sq{w:World}:∀{ts:List Ty} {vs:List Value} {cs:List C} {ts':List Ty} {vs':List Value} {cs':List C},lg w ts vs cs->lg w ts' vs' cs'->lg w (ts++ts') (vs++vs') (cs++cs')
 |[],[],[],_,_,_,_,h=>h
 |_::_,_::_,_::_,_,_,_,⟨h1,h2,h3⟩,h=>⟨h1,h2,Sq h3 h⟩
def Sr{w:World}:∀{ts:List Ty} {vs:List Value} {cs:List C},lg w ts vs cs->vs.length=ts.length/\cs.length=ts.length/\vs=cs.map C.val
 |[],[],[],_=>⟨rfl,rfl,rfl⟩
 |_::_,_::_,_::_,⟨h1,h2,h3⟩=>by obtain⟨e1,e2,e3⟩:=Sr h3;exact⟨by simp[e1],by simp[e2],by simp[h1,<-e3]⟩
def Lz{w:World}:∀{ts:List Ty} {vs:List Value} {cs:List C},lg w ts vs cs->∀{j:Nat},j<ts.length->∃ty c,ts[j]?=some ty/\cs[j]?=some c/\vs[j]?=some c.val/\Eu w ty c
 |ty::ts,v::vs,c::cs,⟨h1,h2,h3⟩,0,_=>⟨ty,c,rfl,rfl,by simp[h1],h2⟩
 |ty::ts,v::vs,c::cs,⟨h1,h2,h3⟩,j+1,h=>by obtain⟨ty,c,a1,a2,a3,a4⟩:=Lz h3 (j:=j) (by simpa using h);exact⟨ty,c,by simpa using a1,by simpa using a2,by simpa using a3,a4⟩
def zn(P:Program)(r:TypeId->Option (List Ty)):Nat->List Field->Option (List Ty)
 |_,[]=>some []
 |o,f::fs=>if f.offset=o then (r f.type).bind λts=>if ts.length=P.cellsOf f.type then (zn P r (o+ts.length) fs).map (ts++·) else none else none
def jB(P:Program):Nat->Bool->TypeId->Option (List Ty)
 |0,_,_=>none
 |n+1,deep,t=>match P.underlying t with
  |some .bool=>some [.bool]
  |some (.int k)=>some [.int k]
  |some .string=>some [.str]
  |some (.slice e)=>if deep then (jB P n true e).bind λts=>if ts.length=P.cellsOf e/\0<P.cellsOf e then some [.row ts] else none else none
  |some (.struct fs)=>(zn P (jB P n deep) 0 fs.toList).bind λts=>if ts.length=P.cellsOf t then some ts else none
  |_=>none
section
variable {H:Type}{enc:TypeId×Value->H}{P:Program}{w:World}{sp:Nat->Bool}{held:Bool}
def VC{r:TypeId->Option (List Ty)}{cs:List Value}
  (hr:∀t ts fuel cs' x,r t=some ts->DataW.trod enc P w 0 sp held fuel t cs'=some x->(∀v∈cs',v∈cs)->∃Cs,lg w ts cs' Cs):
  ∀(fs:List Field) (o:Nat) (ts:List Ty),zn P r o fs=some ts->(∀f∈fs,∃fuel x,DataW.trod enc P w 0 sp held fuel f.type ((cs.drop f.offset).take (P.cellsOf f.type))=some x)->
   ∃Cs,lg w ts ((cs.drop o).take ts.length) Cs
 |[],o,ts,h,_=>by cases h;exact⟨[],by simp[lg]⟩
 |f::fs,o,ts,h,hx=>by
  simp only[zn] at h;split at h
  ·rename_i ho;simp only[kX] at h;obtain⟨t1,h1,h⟩:=h;split at h;·rename_i hl;simp only[kY] at h;obtain⟨t2,h2,rfl⟩:=h;obtain⟨fuel,x,hf⟩:=hx f (bH ..);obtain⟨C1,g1⟩:=hr _ _ _ _ _ h1 hf λv hv=>Wg (Pa hv);obtain⟨C2,g2⟩:=VC hr fs _ _ h2 λf hf=>hx f (cl _ hf);refine⟨C1++C2,?_⟩;rw[iN,List.take_add,En];rw[ho,<-hl] at g1;exact Sq g1 g2
   ·cases h
  ·cases h
def alh{w:World}{g o n m:Nat}{spot:Option Nat}{vs:List Value}(hn:0<n)(h:w.cells? 0 ((⟨g,o,spot⟩:Addr).add (0*m)) n=some vs):spot=none:=by
 obtain⟨_,hl,e3⟩:=World.cells?_some h;have e4:=e3 0 hn;have:∃v,vs[0]?=some v:=⟨vs[0],cv (by omega)⟩;obtain⟨v,hv⟩:=this;rw[hv] at e4;have ha:((⟨g,o,spot⟩:Addr).add (0*m)).add 0=⟨g,o,spot⟩:=by simp[Addr.add]
 rw[ha] at e4;unfold World.cell? at e4;cases spot with
 |none=>rfl
 |some k=>
  split at e4;·simp at e4
  ·cases e4
def trod_good:∀(n:Nat) (deep:Bool) (t:TypeId) (ts:List Ty),jB P n deep t=some ts->∀(fuel:Nat) (cs:List Value) (x:DataW H×List MemPlace),DataW.trod enc P w 0 sp held fuel t cs=some x->∃Cs,lg w ts cs Cs
 |0,_,_,_,h,_,_,_,_=>by cases h
 |n+1,deep,t,ts,h,fuel,cs,x,hx=>by
  simp only[jB] at h;split at h;·rename_i hu;cases h;obtain⟨b,rfl,rfl⟩:=DataW.trod_bool hu hx;exact⟨[.bool b],rfl,⟨trivial,trivial,trivial,trivial,λ_ _ h=>h,.bool⟩,trivial⟩
  ·rename_i k hu;cases h;obtain⟨m,rfl,rfl,hw⟩:=DataW.trod_int hu hx;exact⟨[.int k m],rfl,⟨trivial,trivial,trivial,trivial,λ_ _ h=>h,.int hw⟩,trivial⟩
  ·rename_i hu;cases h;obtain⟨s,rfl,rfl,hw⟩:=DataW.trod_string hu hx;exact⟨[.str s],rfl,⟨trivial,trivial,trivial,hw,λ_ _ h=>h,.str hw⟩,trivial⟩
  ·rename_i e hu;split at h
   ·rename_i hd;simp only[kX] at h;obtain⟨te,h1,h⟩:=h;split at h
    ·rename_i hl;obtain⟨hl,hpos⟩:=hl;cases h;rcases DataW.trod_slice hu hx with ⟨rfl,rfl⟩|⟨a,len,cap,elems,rest,m,rfl,rfl,rfl,_,hlc,hcm,hel,iG,_,_⟩;·refine⟨[.row .sl te.length none 0 0 λ_ _=>.dead undef],rfl,⟨trivial,trivial,.inr (.inl rfl),⟨eP _,λi j hi=>by omega,λi j hi=>by omega,λh=>(by cases h),λi j hi=>by omega⟩,λb k h=>(by cases h.1),?_⟩,trivial⟩;exact jg.row (xs:=[]) (by simp) (λr hr=>by cases hr) (λr hr=>by cases hr)
     ·obtain⟨g,o,spot⟩:=a;by_cases hl0:len=0;·subst hl0;refine⟨[.row .sl te.length (some (g,o,spot)) 0 cap λ_ _=>.dead undef],rfl,⟨trivial,trivial,.inr (.inl rfl),⟨hlc,λi j hi=>by omega,λi j hi=>by omega,λh=>(by cases h),λi j hi=>by omega⟩,λb k h=>(by cases h.1),?_⟩,trivial⟩;exact jg.row (xs:=[]) (by simp) (λr hr=>by cases hr) (λr hr=>by cases hr)
      have ah0:spot=none:=by have:=iG 0 (by omega);rw[cv (by omega),kX] at this;obtain⟨vs,e1,e2⟩:=this;exact alh hpos e1
      subst ah0
      have hex:∀i,∃(vs:List Value) (l:List C),i<len->w.cells? 0 ((⟨g,o,none⟩:Addr).add (i*P.cellsOf e)) (P.cellsOf e)=some vs/\lg w te vs l:=λi=>by
       by_cases hi:i<len;·have:=iG i hi;rw[cv (by omega),kX] at this;obtain⟨vs,e1,e2⟩:=this;obtain⟨l,hl⟩:=trod_good n true _ _ h1 _ _ _ e2;exact⟨vs,l,λ_=>⟨e1,hl⟩⟩
       ·exact⟨[],[],λh=>(hi h).elim⟩
      let vs:=λi=>(hex i).choose;let l:=λi=>(hex i).choose_spec.choose;have hvl:∀i,i<len->w.cells? 0 ((⟨g,o,none⟩:Addr).add (i*P.cellsOf e)) (P.cellsOf e)=some (vs i)/\lg w te (vs i) (l i):=λi=>(hex i).choose_spec.choose_spec
      have hij:∀i j,i<len->j<te.length->∃ty,te[j]?=some ty/\(l i)[j]?=some ((l i).getD j (.dead undef))/\w.cell? ⟨g,o+i*te.length+j,none⟩=some ((l i).getD j (.dead undef)).val/\Eu w ty ((l i).getD j (.dead undef)):=λi j hi hj=>by
       obtain⟨e1,e2⟩:=hvl i hi;obtain⟨ty,c,a1,a2,a3,a4⟩:=Lz e2 hj;have hc:(l i).getD j (.dead undef)=c:=by rw[k6,a2];rfl
       rw[hc];obtain⟨_,_,e3⟩:=World.cells?_some e1;have e4:=e3 j (by omega);rw[a3] at e4;refine⟨ty,a1,a2,?_,a4⟩;rw[<-e4];congr 1;rw[hl];unfold Addr.add;split<;>split<;>simp_all
      have hb:∀i j,i<len->j<te.length->g<w.heap.size:=λi j hi hj=>by obtain⟨_,_,_,h3,_⟩:=hij i j hi hj;exact World.block_lt_of_cell? w _ h3
      refine⟨[.row .sl te.length (some (g,o,none)) len cap λi j=>(l i).getD j (.dead undef)],rfl,⟨trivial,trivial,.inr (.inl rfl),⟨hlc,λi j hi hj=>⟨g,o,rfl,?_,λ_=>hb i j hi hj⟩,λi j hi hj=>?_,λh=>(by cases h),λi j hi hj b k hf=>?_⟩,λb k h=>(by cases h.1),?_⟩,trivial⟩;·obtain⟨ty,_,_,h3,h4⟩:=hij i j hi hj;exact h3
      ·obtain⟨ty,_,_,h3,h4⟩:=hij i j hi hj;exact⟨h4.cell,h4.cZ,h4.fits,h4.ok⟩
      ·obtain⟨ty,_,_,h3,h4⟩:=hij i j hi hj;exact(h4.fp b k hf).elim
      ·refine jg.row (by simpa using e8 hlc hcm) (λr hr=>?_) λr hr j ty x hty L2=>?_;·simp only[bw,tD] at hr;obtain⟨i,_,rfl⟩:=hr;simp
       ·simp only[bw,tD] at hr;obtain⟨i,hi,rfl⟩:=hr
        have hj:j<te.length:=by
         rcases iL j te.length with h|h;·exact h
         ·rw[k7 h] at hty;cases hty
        obtain⟨ty',e1,_,_,h4⟩:=hij i j hi hj;rw[e1] at hty;cases hty;rw[dm,tK hj] at L2;simp only[cq,dX] at L2;subst L2;exact h4.Af
    ·cases h
   ·cases h
  ·rename_i fs hu;simp only[kX] at h;obtain⟨te,h1,h⟩:=h;split at h
   ·rename_i hl;cases h;obtain⟨xs,m,rfl,rfl,hcs,hxl,iG⟩:=DataW.trod_struct hu hx
    obtain⟨Cs,hC⟩:=VC (cs:=cs) (λt ts' fuel cs' x hr ht hm=>trod_good n deep t ts' hr fuel cs' x ht) fs.toList 0 ts h1 λf hf=>by
     obtain⟨i,hi,rfl⟩:=zN hf;have hi':i<fs.size:=by simpa using hi
     have:=iG i (fs[i]) (by simp[hi']);rw[cv (by omega)] at this;exact⟨_,_,by simpa using this⟩
    refine⟨Cs,?_⟩;rw[JR,hl,<-hcs,qR] at hC;exact hC
   ·cases h
  ·cases h
def OJ:∀(n:Nat) (deep:Bool) (t:TypeId) (ts:List Ty),jB P n deep t=some ts->∀(fuel:Nat) (cs:List Value) (x:DataW H×List MemPlace),DataW.trod enc P w 0 (λ_=>true) held fuel t cs=some x->DataW.trod enc P w 0 (λb=>decide (b<w.heap.size)) held fuel t cs=some x
 |0,_,_,_,h,_,_,_,_=>by cases h
 |n+1,deep,t,ts,h,0,cs,x,hx=>by simp[DataW.trod] at hx
 |n+1,deep,t,ts,h,fuel+1,cs,x,hx=>by
  simp only[jB] at h;split at h;·rename_i hu;obtain⟨b,rfl,rfl⟩:=DataW.trod_bool hu hx;simp[DataW.trod,hu]
  ·rename_i k hu;obtain⟨m,rfl,rfl,hw⟩:=DataW.trod_int hu hx;simp[DataW.trod,hu,hw]
  ·rename_i hu;obtain⟨s,rfl,rfl,hw⟩:=DataW.trod_string hu hx;simp[DataW.trod,hu,hw]
  ·rename_i e hu;split at h
   ·simp only[kX] at h;obtain⟨te,h1,h⟩:=h;split at h
    ·rename_i hl;obtain⟨hl,hpos⟩:=hl;rcases DataW.trod_slice hu hx with ⟨rfl,rfl⟩|⟨a,len,cap,elems',rest',m,_,rfl,_⟩;·simp[DataW.trod,hu]
     ·unfold DataW.trod at hx⊢;simp only[hu] at hx⊢;split at hx
      ·rename_i hc;rw[aA hc];simp only[kY,kX,cN] at hx⊢;obtain⟨elems,he,rest,uC,rfl⟩:=hx;have one:∀(i:Nat) (y:DataW H×List MemPlace),(w.cells? 0 (a.add (i*P.cellsOf e)) (P.cellsOf e)).bind (DataW.trod enc P w 0 (λ_=>true) held fuel e)=some y->(w.cells? 0 (a.add (i*P.cellsOf e)) (P.cellsOf e)).bind (DataW.trod enc P w 0 (λb=>decide (b<w.heap.size)) held fuel e)=some y:=λi y hv=>by simp only[kX] at hv⊢;obtain⟨cs',j8,hy'⟩:=hv;exact⟨cs',j8,OJ n true _ _ h1 _ _ _ hy'⟩
       refine⟨elems,mapM_carry he λi y _ _ hv=>one i y hv,rest,?_,rfl⟩;by_cases hb:a.block<w.heap.size;·rw[aA (by simpa using hb)];exact mapM_carry uC λi y _ _ hv=>one (len+i) y hv
       ·rw[aE (by simpa using hb)]
        have:cap - len=0:=by
         rcases Nat.eq_zero_or_pos (cap - len) with h|h;·exact h
         ·have h0:=mapM_some_get uC 0 0 (by simp[h]);have hl':0<rest.length:=by have:=mapM_some_length uC;simp at this;omega
          rw[cv hl',kX] at h0;obtain⟨vs,e1,_⟩:=h0;have:=World.cells?_block e1 hpos;refine(hb ?_).elim;unfold Addr.add at this;split at this<;>exact this
        rw[this] at uC;exact uC
      ·cases hx
    ·cases h
   ·cases h
  ·rename_i fs hu;simp only[kX] at h;obtain⟨te,h1,h⟩:=h;unfold DataW.trod at hx⊢;simp only[hu] at hx⊢
   have each:∀(o:Nat) (l:List Field) (ts:List Ty),zn P (jB P n deep) o l=some ts->∀f∈l,∃t1,jB P n deep f.type=some t1:=by
    intro o l;induction l generalizing o with
    |nil=>intro _ _ f hf;cases hf
    |cons f l ih=>
     intro ts h f' hf';simp only[zn] at h;split at h
     ·simp only[kX] at h;obtain⟨t1,e1,h⟩:=h;split at h
      ·simp only[kY] at h;obtain⟨t2,e2,_⟩:=h;rcases ck.1 hf' with rfl|hf';·exact⟨t1,e1⟩
       ·exact ih _ _ e2 f' hf'
      ·cases h
     ·cases h
   split at hx;·rename_i hc;rw[aA hc];simp only[kY] at hx⊢;obtain⟨xs,hx,rfl⟩:=hx;refine⟨xs,mapM_carry hx λf y hf _ hv=>?_,rfl⟩;obtain⟨t1,e1⟩:=each _ _ _ h1 f hf;exact OJ n deep _ _ e1 _ _ _ hv
   ·cases hx
  ·cases h
inductive mW where
 |one (ty:Ty)
 |agg (tys:List Ty)
inductive qY:mW->X->Prop
 |one {ty x}:jg ty x->qY (.one ty) x
 |agg {tys:List Ty} {l:List X}:l.length=tys.length->(∀(j:Nat) ty x,tys[j]?=some ty->l[j]?=some x->jg ty x)->qY (.agg tys) (.agg l)
def tQ(P:Program)(t:TypeId):Option mW:=match P.underlying t with
 |some (.struct _)=>(jB P 20 true t).map .agg
 |some .bool=>some (.one .bool)
 |some (.int k)=>some (.one (.int k))
 |some .string=>some (.one .str)
 |some (.slice _)=>(jB P 20 true t).bind fun
  |[ty]=>some (.one ty)
  |_=>none
 |_=>none
def Qe{c:C}(h1:c.cell)(h2:c.cZ):c.bare:=by cases c<;>first|trivial|exact h2.elim
structure PR (w:World) (a:mW) (v:Value) (c:C):Prop where
 val:c.val=v
 ok:c.ok w (Zf (λb _=>b<w.heap.size) λ_ _=>False)
 bare:c.bare
 fp:∀b k,¬c.fp b k
 Af:qY a c.er
def Fv{ty:Ty}{cs:List Value}{Cs:List C}{v:Value}(h:lg w [ty] cs Cs)(e:cs=[v]):∃c,PR w (.one ty) v c:=by
 subst e;match Cs,h with
 |[c],⟨h1,h2,_⟩=>exact⟨c,h1,h2.ok,Qe h2.cell h2.cZ,h2.fp,.one h2.Af⟩
def YZ{r:Reach}{base:Nat}{t:TypeId}{v:Value}{d:DataW H}{p:List MemPlace}{a:mW}(ha:tQ P t=some a)(hv:Value.okWide P w r base t v)(hd:DataW.Trod enc P w 0 sp held t v d p):∃c,PR w a v c:=by
 obtain⟨fuel,hf⟩:=hd;unfold tQ at ha;split at ha
 ·rename_i fs hu;simp only[kY] at ha;obtain⟨ts,ht,rfl⟩:=ha;unfold Value.okWide at hv;rw[hu] at hv;obtain⟨cs,rfl,_,ts',_,_,hcell⟩:=hv;obtain⟨Cs,hC⟩:=trod_good _ _ _ _ ht _ _ _ hf;obtain⟨l1,l2,l3⟩:=Sr hC;have iG:∀j,j<Cs.length->∃ty,ts[j]?=some ty/\Eu w ty (Cs.getD j (.dead undef)):=λj hj=>by obtain⟨ty,c,a1,a2,a3,a4⟩:=Lz hC (j:=j) (by omega);exact⟨ty,a1,by rw[k6,a2];exact a4⟩
  refine⟨.agg Cs.length λj=>Cs.getD j (.dead undef),?_,⟨λj hj=>?_,λj hj b k hf=>?_⟩,λj hj=>?_,λb k ⟨j,hj,hf⟩=>?_,?_⟩;·show Value.agg _=_;congr 1;apply pG;show (List.range Cs.length).map (λj=>(Cs.getD j (.dead undef)).val)=cs.toList;have:(Value.agg cs).cells.toList=cs.toList:=rfl;rw[<-this,l3];letI:Bs:=⟨w⟩;exact mM Cs _ C.val
  ·obtain⟨_,_,h⟩:=iG j hj;exact⟨h.cell,h.ok⟩
  ·obtain⟨_,_,h⟩:=iG j hj;exact(h.fp b k hf).elim
  ·obtain⟨_,_,h⟩:=iG j hj;exact Qe h.cell h.cZ
  ·obtain⟨_,_,h⟩:=iG j hj;exact h.fp b k hf
  ·refine qY.agg (by simpa using l2) λj ty x hty hx=>?_
   have hj:j<Cs.length:=by
    rcases iL j Cs.length with h|h;·exact h
    ·rw[k7 (by simpa using h)] at hx;cases hx
   obtain⟨ty',e1,h⟩:=iG j hj;rw[e1] at hty;cases hty;rw[dm,tK hj] at hx;simp only[cq,dX] at hx;subst hx;exact h.Af
 ·rename_i hu;cases ha;obtain⟨Cs,hC⟩:=trod_good 1 true t [.bool] (by simp[jB,hu]) _ _ _ hf;obtain⟨b,hb,_⟩:=DataW.trod_bool hu hf;exact Fv hC (v:=v) (by unfold Value.okWide at hv;rw[hu] at hv;unfold Cell.okWide at hv;rw[hu] at hv;unfold Cell.ok at hv;rw[hu] at hv;cases v<;>first|rfl|(simp at hv;done))
 ·rename_i k hu;cases ha;obtain⟨m,hb,_⟩:=DataW.trod_int hu hf;obtain⟨Cs,hC⟩:=trod_good 1 true t [.int k] (by simp[jB,hu]) _ _ _ hf;exact Fv hC (v:=v) (by unfold Value.okWide at hv;rw[hu] at hv;unfold Cell.okWide at hv;rw[hu] at hv;unfold Cell.ok at hv;rw[hu] at hv;cases v<;>first|rfl|(simp at hv;done))
 ·rename_i hu;cases ha;obtain⟨m,hb,_⟩:=DataW.trod_string hu hf;obtain⟨Cs,hC⟩:=trod_good 1 true t [.str] (by simp[jB,hu]) _ _ _ hf;exact Fv hC (v:=v) (by unfold Value.okWide at hv;rw[hu] at hv;unfold Cell.okWide at hv;rw[hu] at hv;unfold Cell.ok at hv;rw[hu] at hv;cases v<;>first|rfl|(simp at hv;done))
 ·rename_i e hu;simp only[kX] at ha;obtain⟨ts,ht,ha⟩:=ha;split at ha
  ·rename_i ty;cases ha;have hc:Cell.okWide P w r base t v:=by unfold Value.okWide at hv;rw[hu] at hv;exact hv
   have hv1:v.cells.toList=[v]:=by unfold Cell.okWide at hc;rw[hu] at hc;unfold Cell.ok at hc;rw[hu] at hc;cases v<;>first|rfl|(simp at hc;done)
   obtain⟨Cs,hC⟩:=trod_good _ _ _ _ ht _ _ _ hf;exact Fv hC hv1
  ·cases ha
 ·cases ha
def wk:List mW->List X->Prop
 |[],[]=>True
 |a::as,x::xs=>qY a x/\wk as xs
 |_,_=>False
def P8{r:Reach}{base:Nat}:∀{ts:List TypeId} {as:List mW} {vs:List Value} {ds:List (DataW H)} {p:List MemPlace},ts.map (tQ P)=as.map some->
  (∀(j:Nat) t v,ts[j]?=some t->vs[j]?=some v->Value.okWide P w r base t v)->DataW.TrodAll enc P w 0 sp held ts vs ds p->
  ∃cs:List C,cs.map C.val=vs/\(∀c∈cs,c.ok w (Zf (λb _=>b<w.heap.size) λ_ _=>False)/\c.bare/\∀b k,¬c.fp b k)/\wk as (cs.map C.er)
 |[],[],[],[],_,_,_,_=>⟨[],rfl,λ_ h=>(by cases h),trivial⟩
 |t::ts,a::as,v::vs,d::ds,_,ha,hv,⟨p,q,h1,h2,_⟩=>by
  simp only[bE,vZ] at ha;obtain⟨c,hc⟩:=YZ ha.1 (hv 0 t v rfl rfl) h1;obtain⟨cs,e1,e2,e3⟩:=P8 ha.2 (λj t' v' ht eM=>hv (j+1) t' v' (by simpa using ht) (by simpa using eM)) h2;refine⟨c::cs,by simp[hc.val,e1],λx hx=>?_,⟨hc.Af,e3⟩⟩;rcases ck.1 hx with rfl|hx;·exact⟨hc.ok,hc.bare,hc.fp⟩
  ·exact e2 x hx
def aqP{r:Reach}{base:Nat}{ts:List TypeId}{as:List mW}{vs:List Value}{ds:List (DataW H)}{p:List MemPlace}{f:FuncId}(ha:ts.map (tQ P)=as.map some)
  (hv:∀(j:Nat) t v,ts[j]?=some t->vs[j]?=some v->Value.okWide P w r base t v)(hd:DataW.TrodAll enc P w 0 sp held ts vs ds p)
  (hAC:∀xs,wk as xs->@AC ⟨w⟩ P f xs λr _=>r=.bool true):Calls P f vs.toArray w λe w'=>e=.returned (.bool true)/\Below w.heap.size w w':=by
 obtain⟨cs,rfl,hcs,hc⟩:=P8 ha hv hd;refine(hAC _ hc w (λb _=>b<w.heap.size) (λ_ _=>False) cs rfl ⟨λx hx=>(hcs x hx).1,λx hx=>(hcs x hx).2.1,λx hx b k hf=>((hcs x hx).2.2 b k hf).elim,λb k h=>h.elim id False.elim,?_⟩ λb hb=>⟨rfl,λk=>.inl hb⟩).mono λe w' ⟨r,ps,aM,hD,hr⟩=>?_;·refine vR.2 λi j hi hj _ b k hf=>((hcs _ (bh hi)).2.2 b k hf).elim
 ·letI:Bs:=⟨w⟩;have hr':=rO hr;subst hr';exact⟨hD.ends,(hD.ext.mono (S':=λ_ _=>False) λb k ⟨x,hx,hf⟩ _=>(hcs x hx).2.2 b k hf).below⟩
def YY{t:TypeId}{a:mW}(h:tQ P t=some a):∃n deep ts,jB P n deep t=some ts:=by
 unfold tQ at h;split at h;·simp only[kY] at h;obtain⟨ts,ht,_⟩:=h;exact⟨_,_,ts,ht⟩
 ·rename_i hu;exact⟨1,true,[.bool],by simp[jB,hu]⟩
 ·rename_i k hu;exact⟨1,true,[.int k],by simp[jB,hu]⟩
 ·rename_i hu;exact⟨1,true,[.str],by simp[jB,hu]⟩
 ·simp only[kX] at h;obtain⟨ts,ht,_⟩:=h;exact⟨_,_,ts,ht⟩
 ·cases h
def apN{w':World}(hb:Below w.heap.size w w'):∀{ts:List TypeId} {as:List mW} {vs:List Value} {ds:List (DataW H)} {p:List MemPlace},ts.map (tQ P)=as.map some->
  DataW.TrodAll enc P w 0 (λ_=>true) held ts vs ds p->DataW.TrodAll enc P w' 0 (λb=>decide (b<w.heap.size)) held ts vs ds p
 |[],[],[],[],_,_,h=>h
 |t::ts,a::as,v::vs,d::ds,_,ha,⟨p,q,⟨fuel,h1⟩,h2,e⟩=>by simp only[bE,vZ] at ha;obtain⟨n,deep,tt,ht⟩:=YY ha.1;have h3:=OJ n deep t tt ht _ _ _ h1;exact⟨p,q,⟨fuel,DataW.trod_carry _ _ _ _ h3 λm hm=>hb.same (DataW.trod_lt _ _ _ _ h3 m hm)⟩,apN hb ha.2 h2,e⟩
end
end M
namespace M
open Go
def dP(ts:List Ty)(r:List X):Prop:=r.length=ts.length/\∀(j:Nat) ty x,ts[j]?=some ty->r[j]?=some x->jg ty x
def dP.nil{r:List X}(h:dP [] r):r=[]:=PG.1 h.1
def dP.cons{ty:Ty}{ts:List Ty}{r:List X}(h:dP (ty::ts) r):∃x r',r=x::r'/\jg ty x/\dP ts r':=by
 obtain⟨h1,h2⟩:=h;cases r with
 |nil=>cases h1
 |cons x r=>exact⟨x,r,rfl,h2 0 ty x rfl rfl,by simpa using h1,λj ty x ht hx=>h2 (j+1) ty x (by simpa using ht) (by simpa using hx)⟩
def mj{x:X}(h:jg .str x):∃s:ag,x=.str ⟨s.toArray⟩/\s.length<=9223372036854775807:=by
 cases h with
 |str h=>rename_i s;exact⟨s.data.toList,by simp,by rw[zz];exact h⟩
def acf{x:X}(h:jg .bool x):∃b,x=.bool b:=by cases h;exact⟨_,rfl⟩
def Zh{n:Int}(h:(Lit.int .i64 n).wf=true):-9223372036854775808<=n/\n<=9223372036854775807:=by have h':(decide (IntKind.i64.min<=n) && decide (n<=IntKind.i64.max))=true:=h;rw[aC,bD,bD] at h';exact h'
def jl{x:X}(h:jg (.int .i64) x):∃n:Int,x=.int .i64 n/\-9223372036854775808<=n/\n<=9223372036854775807:=by
 cases h with
 |int h=>rename_i n;refine⟨n,rfl,?_⟩;exact Zh h
def TJ{α:Type}{e:α->List X}{ok:α->Prop}:∀{xs:List (List X)},(∀r∈xs,∃a,r=e a/\ok a)->∃l:List α,xs=l.map e/\∀a∈l,ok a
 |[],_=>⟨[],rfl,λ_ h=>by cases h⟩
 |r::xs,h=>by
  obtain⟨a,e1,e2⟩:=h r (bH ..);obtain⟨l,e3,e4⟩:=TJ (λr hr=>h r (cl _ hr));refine⟨a::l,by simp[e1,e3],λb hb=>?_⟩;rcases ck.1 hb with rfl|hb;·exact e2
  ·exact e4 b hb
def mh{α:Type}(e:α->List X)(ok:α->Prop){ts:List Ty}{x:X}(h:jg (.row ts) x)(hr:∀r,dP ts r->∃a,r=e a/\ok a):∃l:List α,x=.row .sl ts.length (l.map e)/\l.length<=9223372036854775807/\∀a∈l,ok a:=by
 cases h with
 |row h1 h2 h3=>rename_i xs;obtain⟨l,rfl,hl⟩:=TJ (e:=e) (ok:=ok) (xs:=xs) λr hr'=>hr r ⟨h2 r hr',h3 r hr'⟩;rw[dH] at h1;exact⟨l,rfl,h1,hl⟩
def ab2{tys:List Ty}{x:X}(h:qY (.agg tys) x):∃l,x=.agg l/\dP tys l:=by
 cases h with
 |agg h1 h2=>exact⟨_,rfl,h1,h2⟩
def aro{a:mW}{as:List mW}{xs:List X}(h:wk (a::as) xs):∃x xs',xs=x::xs'/\qY a x/\wk as xs':=by
 match xs,h with
 |x::xs',⟨h1,h2⟩=>exact⟨x,xs',rfl,h1,h2⟩
def arp{xs:List X}(h:wk [] xs):xs=[]:=by
 match xs,h with
 |[],_=>rfl
structure aqk (d:bq):Prop where
 hb:d.cells.length<=9223372036854775807
 hs:∀s∈d.cells,s.length<=9223372036854775807
 hb':d.pending.length<=9223372036854775807
 hs':∀s∈d.pending,s.text.length<=9223372036854775807
 hi:∀s∈d.pending,-9223372036854775808<=s.at_/\s.at_<=9223372036854775807
end M
namespace M
open Go
end M
namespace M
open Go
def VF(m:Nat)(h:m<256):tB [[.int .u8 (m:Int)]]=some [UInt8.ofNat m]:=by
 have:=VE [UInt8.ofNat m];have e:((UInt8.ofNat m).toNat:Int)=m:=by rw[Pm];omega
 simp only[bE,mT,e] at this;exact this
def OR{n:Int}(h1:0<=n)(h2:n<256):IntKind.u8.wrap n=n:=by simp only[IntKind.wrap,IntKind.signed,IntKind.bits,Pp,fS,di];omega
def bg(n:Nat):ag:=Lib.decDigits n
def TU:∀(n:Nat) (out:ag),n≠0->qu n out=bg n++out:=by
 intro n;induction n using Nat.strongRecOn with
 |ind n ih=>
  intro out h;unfold qu bg;rw[vW h,Lib.decDigits];by_cases h1:n<10
  ·have e:n / 10=0:=by omega
   have e2:n%10=n:=by omega
   rw[oc h1,e,e2];unfold qu;rw[oc rfl];rfl
  ·rw[vW h1,ih (n / 10) (by omega) _ (by omega)];unfold bg;rw[mV];rfl
def wT:bg 0=[48]:=by unfold bg;rw[Lib.decDigits];rfl
def rK(k:Nat):∀(n:Nat),n<10^(k+1)->(bg n).length<=k+1:=by
 induction k with
 |zero=>intro n h;unfold bg;rw[Lib.decDigits,oc (by simpa using h)];simp
 |succ k ih=>
  intro n h;unfold bg;rw[Lib.decDigits];by_cases h1:n<10;·rw[oc h1];simp
  ·rw[vW h1,iN];have:=ih (n / 10) (by rw[JK] at h;omega);unfold bg at this;simp only[dc,k8];omega
def Mw(n:Nat):Lib.itoa (n:Int)=bg n:=by unfold Lib.itoa bg;rw[aE (by omega)];rfl
def BG:List X->Option X
 |[.int .i64 n]=>if -9223372036854775808<=n/\n<=9223372036854775807 then some (.str ⟨(Go.Lib.itoa n).toArray⟩) else none
 |_=>none
def aie(f:FuncId)(n:Nat)(h:n<10^18):jy f BG f [.int .i64 (n:Int)]=some (.str ⟨(bg n).toArray⟩,[.dead]):=by
 have h1:(n:Int)<=9223372036854775807:=by omega
 have h2:=rK 17 n (by omega);simp[jy,BG,Mw,scalar,DI,h1];omega
end M
namespace M
open Go
def wS(s:ag):Nat:=s.length
def wO{α:Type}(_:α):Nat:=0
def wL{α:Type}(w:α->Nat)(l:List α):Nat:=l.length+(l.map w).sum
def eZ{α:Type}{w:α->Nat}:∀{l:List α} {a:α},a∈l->w a<=wL w l
 |b::l,a,h=>by
  rcases ck.1 h with rfl|h;·simp[wL];omega
  ·have:=eZ (w:=w) h;simp[wL] at this⊢;omega
def aT{α:Type}{w:α->Nat}(l:List α):l.length<=wL w l:=by unfold wL;omega
def aD(n:Int)(w:Nat):Int:=if (w:Int)<=n then n - w else -1
def bV(n:Int)(w:Nat):((w:Int)<=n/\aD n w=n - w)\/(n<(w:Int)/\aD n w=-1):=by
 unfold aD;split;·exact .inl ⟨by assumption,rfl⟩
 ·exact .inr ⟨by omega,rfl⟩
def tq(w:Nat)(n:Int):aD n w<=n\/aD n w<0:=by have:=bV n w;omega
def qM{α:Type}(w:α->Nat):∀(l:List α) (n:Int),0<=n->fo (λb n=>aD n (w b)) l n=aD n (l.map w).sum
 |[],n,h=>by simp[fo,aD,h]
 |b::l,n,h=>by
  simp only[fo,bE,tE];rcases bV n (w b) with ⟨h1,h2⟩|⟨h1,h2⟩;·rw[aE (by omega),qM w l _ (by omega),h2];rcases bV (n - w b) (l.map w).sum with ⟨h3,h4⟩|⟨h3,h4⟩<;>rcases bV n (w b+(l.map w).sum) with ⟨h5,h6⟩|⟨h5,h6⟩<;>omega
  ·rw[aA (by omega)];rcases bV n (w b+(l.map w).sum) with ⟨h5,h6⟩|⟨h5,h6⟩<;>omega
def bI(n:Int):Prop:=-9223372036854775808<=n/\n<=9223372036854775807
def bS(s:ag):Prop:=s.length<=9223372036854775807
def bB(_:Bool):Prop:=True
def bL{α:Type}(b:α->Prop)(l:List α):Prop:=l.length<=9223372036854775807/\∀a∈l,b a
@[simp] def eI(n:Int):List X:=[.int .i64 n]
@[simp] def asM(m:Md)(l:List Int):X.cg m (l.map eI)=l.map eI:=by induction l<;>simp_all[X.cg,X.ey,X.md]
@[simp] def aqZ(l:List Int):X.clean.bK (l.map eI)=true:=by induction l<;>simp_all[X.clean.bK,X.clean.cJ,X.clean]
structure aL where
 name:ag
 value:ag
 deriving DecidableEq
@[simp] def aF(a:aL):List X:=[.str ⟨(a.name).toArray⟩,.str ⟨(a.value).toArray⟩]
@[simp] def asL(m:Md)(l:List aL):X.cg m (l.map aF)=l.map aF:=by induction l<;>simp_all[X.cg,X.ey,X.md]
@[simp] def aqY(l:List aL):X.clean.bK (l.map aF)=true:=by induction l<;>simp_all[X.clean.bK,X.clean.cJ,X.clean]
def aH(a:aL):Nat:=a.name.length+a.value.length
structure rz (x:aL):Prop where
 ain:bS x.name
 aiw:bS x.value
def acn(a b:aL):decide (a=b)=(decide (a.name=b.name) && decide (a.value=b.value)):=by cases a;cases b;simp[kr]
structure bF where
 status:Int
 fields:List aL
 body:ag
 deriving DecidableEq
@[simp] def dx(m:Md)(a:bF):List X:=[.int .i64 a.status,.row m 2 ((a.fields).map aF),.str ⟨(a.body).toArray⟩]
@[simp] def asR(m m':Md)(l:List bF):X.cg m (l.map (dx m'))=l.map (dx m):=by induction l<;>simp_all[X.cg,X.ey,X.md]
@[simp] def aq4(l:List bF):X.clean.bK (l.map (dx .own))=true:=by induction l<;>simp_all[X.clean.bK,X.clean.cJ,X.clean]
@[simp] def arj(l:List bF):X.clean.bK (l.map (dx .sl))=true:=by induction l<;>simp_all[X.clean.bK,X.clean.cJ,X.clean]
def aX(a:bF):Nat:=wL aH a.fields+a.body.length
structure wC (x:bF):Prop where
 asw:bI x.status
 My:(bL rz) x.fields
 Mx:bS x.body
def acs(a b:bF):decide (a=b)=(decide (a.status=b.status) && decide (a.fields=b.fields) && decide (a.body=b.body)):=by cases a;cases b;simp[kr]
structure Rq where
 method:Int
 path:ag
 fields:List aL
 body:ag
 deriving DecidableEq
@[simp] def gD(m:Md)(a:Rq):List X:=[.int .i64 a.method,.str ⟨(a.path).toArray⟩,.row m 2 ((a.fields).map aF),.str ⟨(a.body).toArray⟩]
@[simp] def asQ(m m':Md)(l:List Rq):X.cg m (l.map (gD m'))=l.map (gD m):=by induction l<;>simp_all[X.cg,X.ey,X.md]
@[simp] def aq3(l:List Rq):X.clean.bK (l.map (gD .own))=true:=by induction l<;>simp_all[X.clean.bK,X.clean.cJ,X.clean]
@[simp] def ari(l:List Rq):X.clean.bK (l.map (gD .sl))=true:=by induction l<;>simp_all[X.clean.bK,X.clean.cJ,X.clean]
def b9(a:Rq):Nat:=a.path.length+wL aH a.fields+a.body.length
structure wB (x:Rq):Prop where
 ast:bI x.method
 Mz:bS x.path
 My:(bL rz) x.fields
 Mx:bS x.body
def acr(a b:Rq):decide (a=b)=(decide (a.method=b.method) && decide (a.path=b.path) && decide (a.fields=b.fields) && decide (a.body=b.body)):=by cases a;cases b;simp[kr]
structure Ob where
 path:ag
 names:List ag
 values:List ag
 resp:bF
 t:Int
 deriving DecidableEq
@[simp] def bA(m:Md)(a:Ob):List X:=[.str ⟨(a.path).toArray⟩,.row m 1 ((a.names).map eS),.row m 1 ((a.values).map eS),.int .i64 a.resp.status,.row m 2 ((a.resp.fields).map aF),.str ⟨(a.resp.body).toArray⟩,.int .i64 a.t]
@[simp] def asO(m m':Md)(l:List Ob):X.cg m (l.map (bA m'))=l.map (bA m):=by induction l<;>simp_all[X.cg,X.ey,X.md]
@[simp] def aq1(l:List Ob):X.clean.bK (l.map (bA .own))=true:=by induction l<;>simp_all[X.clean.bK,X.clean.cJ,X.clean]
@[simp] def arf(l:List Ob):X.clean.bK (l.map (bA .sl))=true:=by induction l<;>simp_all[X.clean.bK,X.clean.cJ,X.clean]
def aW(a:Ob):Nat:=a.path.length+wL wS a.names+wL wS a.values+aX a.resp
structure z7 (x:Ob):Prop where
 Mz:bS x.path
 aio:(bL bS) x.names
 aix:(bL bS) x.values
 xN:wC x.resp
 uT:bI x.t
def acp(a b:Ob):decide (a=b)=(decide (a.path=b.path) && decide (a.names=b.names) && decide (a.values=b.values) && decide (a.resp=b.resp) && decide (a.t=b.t)):=by cases a;cases b;simp[kr]
structure Kp where
 obj:Ob
 at_:Int
 seq:Int
 deriving DecidableEq
@[simp] def aG(m:Md)(a:Kp):List X:=[.str ⟨(a.obj.path).toArray⟩,.row m 1 ((a.obj.names).map eS),.row m 1 ((a.obj.values).map eS),.int .i64 a.obj.resp.status,.row m 2 ((a.obj.resp.fields).map aF),.str ⟨(a.obj.resp.body).toArray⟩,.int .i64 a.obj.t,.int .i64 a.at_,.int .i64 a.seq]
@[simp] def asN(m m':Md)(l:List Kp):X.cg m (l.map (aG m'))=l.map (aG m):=by induction l<;>simp_all[X.cg,X.ey,X.md]
@[simp] def aq0(l:List Kp):X.clean.bK (l.map (aG .own))=true:=by induction l<;>simp_all[X.clean.bK,X.clean.cJ,X.clean]
@[simp] def ard(l:List Kp):X.clean.bK (l.map (aG .sl))=true:=by induction l<;>simp_all[X.clean.bK,X.clean.cJ,X.clean]
def bN(a:Kp):Nat:=aW a.obj
structure wz (x:Kp):Prop where
 BH:z7 x.obj
 aih:bI x.at_
 ait:bI x.seq
def aco(a b:Kp):decide (a=b)=(decide (a.obj=b.obj) && decide (a.at_=b.at_) && decide (a.seq=b.seq)):=by cases a;cases b;simp[kr]
def cu(a:Wr):Nat:=a.text.length
structure wE (x:Wr):Prop where
 aih:bI x.at_
 aiv:bS x.text
def acw(a b:Wr):decide (a=b)=(decide (a.at_=b.at_) && decide (a.text=b.text)):=by cases a;cases b;simp[kr]
def cA(a:bq):Nat:=wL wS a.cells+wL cu a.pending
structure J9 (x:bq):Prop where
 aij:(bL bS) x.cells
 air:(bL wE) x.pending
def ack(a b:bq):decide (a=b)=(decide (a.cells=b.cells) && decide (a.pending=b.pending)):=by cases a;cases b;simp[kr]
structure Bn where
 kind:Int
 a:ag
 b:ag
 t:Int
 deriving DecidableEq
@[simp] def aZ(a:Bn):List X:=[.int .i64 a.kind,.str ⟨(a.a).toArray⟩,.str ⟨(a.b).toArray⟩,.int .i64 a.t]
@[simp] def asH(m:Md)(l:List Bn):X.cg m (l.map aZ)=l.map aZ:=by induction l<;>simp_all[X.cg,X.ey,X.md]
@[simp] def aqU(l:List Bn):X.clean.bK (l.map aZ)=true:=by induction l<;>simp_all[X.clean.bK,X.clean.cJ,X.clean]
def aY(a:Bn):Nat:=a.a.length+a.b.length
structure tS (x:Bn):Prop where
 Ts:bI x.kind
 Tp:bS x.a
 k_b:bS x.b
 uT:bI x.t
def aci(a b:Bn):decide (a=b)=(decide (a.kind=b.kind) && decide (a.a=b.a) && decide (a.b=b.b) && decide (a.t=b.t)):=by cases a;cases b;simp[kr]
structure Sh where
 aS:bq
 au:List Kp
 aI:List Bn
 next:Int
 seq:Int
 deriving DecidableEq
@[simp] def aP(m:Md)(a:Sh):List X:=[.row m 1 ((a.aS.cells).map eS),.row m 2 ((a.aS.pending).map eW),.row m 9 ((a.au).map (aG m)),.row m 4 ((a.aI).map aZ),.int .i64 a.next,.int .i64 a.seq]
@[simp] def asU(m m':Md)(l:List Sh):X.cg m (l.map (aP m'))=l.map (aP m):=by induction l<;>simp_all[X.cg,X.ey,X.md]
@[simp] def aq7(l:List Sh):X.clean.bK (l.map (aP .own))=true:=by induction l<;>simp_all[X.clean.bK,X.clean.cJ,X.clean]
@[simp] def arl(l:List Sh):X.clean.bK (l.map (aP .sl))=true:=by induction l<;>simp_all[X.clean.bK,X.clean.cJ,X.clean]
def ct(a:Sh):Nat:=cA a.aS+wL bN a.au+wL aY a.aI
structure Ka (x:Sh):Prop where
 ail:J9 x.aS
 aip:(bL wz) x.au
 Tq:(bL tS) x.aI
 asu:bI x.next
 ait:bI x.seq
def acv(a b:Sh):decide (a=b)=(decide (a.aS=b.aS) && decide (a.au=b.au) && decide (a.aI=b.aI) && decide (a.next=b.next) && decide (a.seq=b.seq)):=by cases a;cases b;simp[kr]
structure Fl where
 q:Rq
 who:List Int
 old:Ob
 oA:Bool
 deriving DecidableEq
@[simp] def bZ(m:Md)(a:Fl):List X:=[.int .i64 a.q.method,.str ⟨(a.q.path).toArray⟩,.row m 2 ((a.q.fields).map aF),.str ⟨(a.q.body).toArray⟩,.row m 1 ((a.who).map eI),.str ⟨(a.old.path).toArray⟩,.row m 1 ((a.old.names).map eS),.row m 1 ((a.old.values).map eS),.int .i64 a.old.resp.status,.row m 2 ((a.old.resp.fields).map aF),.str ⟨(a.old.resp.body).toArray⟩,.int .i64 a.old.t,.bool a.oA]
@[simp] def asK(m m':Md)(l:List Fl):X.cg m (l.map (bZ m'))=l.map (bZ m):=by induction l<;>simp_all[X.cg,X.ey,X.md]
@[simp] def aqX(l:List Fl):X.clean.bK (l.map (bZ .own))=true:=by induction l<;>simp_all[X.clean.bK,X.clean.cJ,X.clean]
@[simp] def arc(l:List Fl):X.clean.bK (l.map (bZ .sl))=true:=by induction l<;>simp_all[X.clean.bK,X.clean.cJ,X.clean]
def cE(a:Fl):Nat:=b9 a.q+wL wO a.who+aW a.old
structure wv (x:Fl):Prop where
 xM:wB x.q
 aiy:(bL bI) x.who
 aiq:z7 x.old
 asr:bB x.oA
def acm(a b:Fl):decide (a=b)=(decide (a.q=b.q) && decide (a.who=b.who) && decide (a.old=b.old) && decide (a.oA=b.oA)):=by cases a;cases b;simp[kr]
structure Se where
 q:Rq
 resp:bF
 t:Int
 deriving DecidableEq
@[simp] def dU(m:Md)(a:Se):List X:=[.int .i64 a.q.method,.str ⟨(a.q.path).toArray⟩,.row m 2 ((a.q.fields).map aF),.str ⟨(a.q.body).toArray⟩,.int .i64 a.resp.status,.row m 2 ((a.resp.fields).map aF),.str ⟨(a.resp.body).toArray⟩,.int .i64 a.t]
@[simp] def asT(m m':Md)(l:List Se):X.cg m (l.map (dU m'))=l.map (dU m):=by induction l<;>simp_all[X.cg,X.ey,X.md]
@[simp] def aq6(l:List Se):X.clean.bK (l.map (dU .own))=true:=by induction l<;>simp_all[X.clean.bK,X.clean.cJ,X.clean]
@[simp] def ark(l:List Se):X.clean.bK (l.map (dU .sl))=true:=by induction l<;>simp_all[X.clean.bK,X.clean.cJ,X.clean]
def dh(a:Se):Nat:=b9 a.q+aX a.resp
structure wD (x:Se):Prop where
 xM:wB x.q
 xN:wC x.resp
 uT:bI x.t
def acu(a b:Se):decide (a=b)=(decide (a.q=b.q) && decide (a.resp=b.resp) && decide (a.t=b.t)):=by cases a;cases b;simp[kr]
structure Rp where
 client:Int
 q:Rq
 resp:bF
 kind:Int
 t:Int
 obj:Ob
 aI:Int
 deriving DecidableEq
@[simp] def cC(m:Md)(a:Rp):List X:=[.int .i64 a.client,.int .i64 a.q.method,.str ⟨(a.q.path).toArray⟩,.row m 2 ((a.q.fields).map aF),.str ⟨(a.q.body).toArray⟩,.int .i64 a.resp.status,.row m 2 ((a.resp.fields).map aF),.str ⟨(a.resp.body).toArray⟩,.int .i64 a.kind,.int .i64 a.t,.str ⟨(a.obj.path).toArray⟩,.row m 1 ((a.obj.names).map eS),.row m 1 ((a.obj.values).map eS),.int .i64 a.obj.resp.status,.row m 2 ((a.obj.resp.fields).map aF),.str ⟨(a.obj.resp.body).toArray⟩,.int .i64 a.obj.t,.int .i64 a.aI]
@[simp] def asP(m m':Md)(l:List Rp):X.cg m (l.map (cC m'))=l.map (cC m):=by induction l<;>simp_all[X.cg,X.ey,X.md]
@[simp] def aq2(l:List Rp):X.clean.bK (l.map (cC .own))=true:=by induction l<;>simp_all[X.clean.bK,X.clean.cJ,X.clean]
@[simp] def arh(l:List Rp):X.clean.bK (l.map (cC .sl))=true:=by induction l<;>simp_all[X.clean.bK,X.clean.cJ,X.clean]
def cj(a:Rp):Nat:=b9 a.q+aX a.resp+aW a.obj
structure wA (x:Rp):Prop where
 aik:bI x.client
 xM:wB x.q
 xN:wC x.resp
 Ts:bI x.kind
 uT:bI x.t
 BH:z7 x.obj
 Tq:bI x.aI
def acq(a b:Rp):decide (a=b)=(decide (a.client=b.client) && decide (a.q=b.q) && decide (a.resp=b.resp) && decide (a.kind=b.kind) && decide (a.t=b.t) && decide (a.obj=b.obj) && decide (a.aI=b.aI)):=by cases a;cases b;simp[kr]
structure Ca where
 ax:Sh
 bQ:List Fl
 now:Int
 seen:List Se
 sent:List Rp
 deriving DecidableEq
@[simp] def bU(m:Md)(a:Ca):List X:=[.row m 1 ((a.ax.aS.cells).map eS),.row m 2 ((a.ax.aS.pending).map eW),.row m 9 ((a.ax.au).map (aG m)),.row m 4 ((a.ax.aI).map aZ),.int .i64 a.ax.next,.int .i64 a.ax.seq,.row m 13 ((a.bQ).map (bZ m)),.int .i64 a.now,.row m 8 ((a.seen).map (dU m)),.row m 18 ((a.sent).map (cC m))]
@[simp] def asI(m m':Md)(l:List Ca):X.cg m (l.map (bU m'))=l.map (bU m):=by induction l<;>simp_all[X.cg,X.ey,X.md]
@[simp] def aqV(l:List Ca):X.clean.bK (l.map (bU .own))=true:=by induction l<;>simp_all[X.clean.bK,X.clean.cJ,X.clean]
@[simp] def ara(l:List Ca):X.clean.bK (l.map (bU .sl))=true:=by induction l<;>simp_all[X.clean.bK,X.clean.cJ,X.clean]
def bR(a:Ca):Nat:=ct a.ax+wL cE a.bQ+wL dh a.seen+wL cj a.sent
structure oo (x:Ca):Prop where
 aiu:Ka x.ax
 aim:(bL wv) x.bQ
 asv:bI x.now
 ais:(bL wD) x.seen
 MA:(bL wA) x.sent
def acj(a b:Ca):decide (a=b)=(decide (a.ax=b.ax) && decide (a.bQ=b.bQ) && decide (a.now=b.now) && decide (a.seen=b.seen) && decide (a.sent=b.sent)):=by cases a;cases b;simp[kr]
structure De where
 kind:Int
 client:Int
 q:Rq
 a:Int
 resp:bF
 rA:Bn
 keep:List Bool
 deriving DecidableEq
@[simp] def E6(m:Md)(a:De):List X:=[.int .i64 a.kind,.int .i64 a.client,.int .i64 a.q.method,.str ⟨(a.q.path).toArray⟩,.row m 2 ((a.q.fields).map aF),.str ⟨(a.q.body).toArray⟩,.int .i64 a.a,.int .i64 a.resp.status,.row m 2 ((a.resp.fields).map aF),.str ⟨(a.resp.body).toArray⟩,.int .i64 a.rA.kind,.str ⟨(a.rA.a).toArray⟩,.str ⟨(a.rA.b).toArray⟩,.int .i64 a.rA.t,.row m 1 ((a.keep).map eB)]
@[simp] def asJ(m m':Md)(l:List De):X.cg m (l.map (E6 m'))=l.map (E6 m):=by induction l<;>simp_all[X.cg,X.ey,X.md]
@[simp] def aqW(l:List De):X.clean.bK (l.map (E6 .own))=true:=by induction l<;>simp_all[X.clean.bK,X.clean.cJ,X.clean]
@[simp] def arb(l:List De):X.clean.bK (l.map (E6 .sl))=true:=by induction l<;>simp_all[X.clean.bK,X.clean.cJ,X.clean]
structure bDe (x:De):Prop where
 Ts:bI x.kind
 aik:bI x.client
 xM:wB x.q
 Tp:bI x.a
 xN:wC x.resp
 asq:tS x.rA
 ass:(bL bB) x.keep
def Rg{ts:List Ty}{l:List X}(h:dP ([.str,.str]++ts) l):∃(a:aL) (l':List X),l=aF a++l'/\rz a/\dP ts l':=by simp only[dG,e7] at h;obtain⟨y1,r1,rfl,c1,h1⟩:=h.cons;obtain⟨a1,rfl,b1⟩:=mj c1;obtain⟨y2,r2,rfl,c2,h2⟩:=h1.cons;obtain⟨a2,rfl,b2⟩:=mj c2;exact⟨⟨a1,a2⟩,r2,by simp,⟨b1,b2⟩,h2⟩
def K3{ts:List Ty}{l:List X}(h:dP ([.int .i64,.row [.str,.str],.str]++ts) l):∃(a:bF) (l':List X),l=dx .sl a++l'/\wC a/\dP ts l':=by
 simp only[dG,e7] at h;obtain⟨y1,r1,rfl,c1,h1⟩:=h.cons;obtain⟨a1,rfl,b1⟩:=jl c1;obtain⟨y2,r2,rfl,c2,h2⟩:=h1.cons;obtain⟨a2,rfl,b2⟩:=mh aF rz c2 λr hr=>by obtain⟨a,l',rfl,h1,h2⟩:=Rg (ts:=[]) (by simpa using hr);obtain rfl:=h2.nil;exact⟨a,by simp,h1⟩
 obtain⟨y3,r3,rfl,c3,h3⟩:=h2.cons;obtain⟨a3,rfl,b3⟩:=mj c3;exact⟨⟨a1,a2,a3⟩,r3,by simp,⟨b1,b2,b3⟩,h3⟩
def K2{ts:List Ty}{l:List X}(h:dP ([.int .i64,.str,.row [.str,.str],.str]++ts) l):∃(a:Rq) (l':List X),l=gD .sl a++l'/\wB a/\dP ts l':=by
 simp only[dG,e7] at h;obtain⟨y1,r1,rfl,c1,h1⟩:=h.cons;obtain⟨a1,rfl,b1⟩:=jl c1;obtain⟨y2,r2,rfl,c2,h2⟩:=h1.cons;obtain⟨a2,rfl,b2⟩:=mj c2;obtain⟨y3,r3,rfl,c3,h3⟩:=h2.cons;obtain⟨a3,rfl,b3⟩:=mh aF rz c3 λr hr=>by obtain⟨a,l',rfl,h1,h2⟩:=Rg (ts:=[]) (by simpa using hr);obtain rfl:=h2.nil;exact⟨a,by simp,h1⟩
 obtain⟨y4,r4,rfl,c4,h4⟩:=h3.cons;obtain⟨a4,rfl,b4⟩:=mj c4;exact⟨⟨a1,a2,a3,a4⟩,r4,by simp,⟨b1,b2,b3,b4⟩,h4⟩
def K1{ts:List Ty}{l:List X}(h:dP ([.str,.row [.str],.row [.str],.int .i64,.row [.str,.str],.str,.int .i64]++ts) l):∃(a:Ob) (l':List X),l=bA .sl a++l'/\z7 a/\dP ts l':=by
 simp only[dG,e7] at h;obtain⟨y1,r1,rfl,c1,h1⟩:=h.cons;obtain⟨a1,rfl,b1⟩:=mj c1;obtain⟨y2,r2,rfl,c2,h2⟩:=h1.cons;obtain⟨a2,rfl,b2⟩:=mh eS bS c2 λr hr=>by obtain⟨x,r',rfl,h1,h2⟩:=hr.cons;obtain rfl:=h2.nil;obtain⟨s,rfl,hs⟩:=mj h1;exact⟨s,rfl,hs⟩
 obtain⟨y3,r3,rfl,c3,h3⟩:=h2.cons;obtain⟨a3,rfl,b3⟩:=mh eS bS c3 λr hr=>by obtain⟨x,r',rfl,h1,h2⟩:=hr.cons;obtain rfl:=h2.nil;obtain⟨s,rfl,hs⟩:=mj h1;exact⟨s,rfl,hs⟩
 obtain⟨a4,r4,rfl,b4,h4⟩:=K3 (ts:=_) h3;obtain⟨y5,r5,rfl,c5,h5⟩:=h4.cons;obtain⟨a5,rfl,b5⟩:=jl c5;exact⟨⟨a1,a2,a3,a4,a5⟩,r5,by simp,⟨b1,b2,b3,b4,b5⟩,h5⟩
def ab7{ts:List Ty}{l:List X}(h:dP ([.str,.row [.str],.row [.str],.int .i64,.row [.str,.str],.str,.int .i64,.int .i64,.int .i64]++ts) l):∃(a:Kp) (l':List X),l=aG .sl a++l'/\wz a/\dP ts l':=by simp only[dG,e7] at h;obtain⟨a1,r1,rfl,b1,h1⟩:=K1 (ts:=_) h;obtain⟨y2,r2,rfl,c2,h2⟩:=h1.cons;obtain⟨a2,rfl,b2⟩:=jl c2;obtain⟨y3,r3,rfl,c3,h3⟩:=h2.cons;obtain⟨a3,rfl,b3⟩:=jl c3;exact⟨⟨a1,a2,a3⟩,r3,by simp,⟨b1,b2,b3⟩,h3⟩
def ace{ts:List Ty}{l:List X}(h:dP ([.int .i64,.str]++ts) l):∃(a:Wr) (l':List X),l=eW a++l'/\wE a/\dP ts l':=by simp only[dG,e7] at h;obtain⟨y1,r1,rfl,c1,h1⟩:=h.cons;obtain⟨a1,rfl,b1⟩:=jl c1;obtain⟨y2,r2,rfl,c2,h2⟩:=h1.cons;obtain⟨a2,rfl,b2⟩:=mj c2;exact⟨⟨a1,a2⟩,r2,by simp,⟨b1,b2⟩,h2⟩
def ab5{ts:List Ty}{l:List X}(h:dP ([.row [.str],.row [.int .i64,.str]]++ts) l):∃(a:bq) (l':List X),l=bW .sl a++l'/\J9 a/\dP ts l':=by
 simp only[dG,e7] at h;obtain⟨y1,r1,rfl,c1,h1⟩:=h.cons;obtain⟨a1,rfl,b1⟩:=mh eS bS c1 λr hr=>by obtain⟨x,r',rfl,h1,h2⟩:=hr.cons;obtain rfl:=h2.nil;obtain⟨s,rfl,hs⟩:=mj h1;exact⟨s,rfl,hs⟩
 obtain⟨y2,r2,rfl,c2,h2⟩:=h1.cons;obtain⟨a2,rfl,b2⟩:=mh eW wE c2 λr hr=>by obtain⟨a,l',rfl,h1,h2⟩:=ace (ts:=[]) (by simpa using hr);obtain rfl:=h2.nil;exact⟨a,by simp,h1⟩
 exact⟨⟨a1,a2⟩,r2,by simp,⟨b1,b2⟩,h2⟩
def ab3{ts:List Ty}{l:List X}(h:dP ([.int .i64,.str,.str,.int .i64]++ts) l):∃(a:Bn) (l':List X),l=aZ a++l'/\tS a/\dP ts l':=by simp only[dG,e7] at h;obtain⟨y1,r1,rfl,c1,h1⟩:=h.cons;obtain⟨a1,rfl,b1⟩:=jl c1;obtain⟨y2,r2,rfl,c2,h2⟩:=h1.cons;obtain⟨a2,rfl,b2⟩:=mj c2;obtain⟨y3,r3,rfl,c3,h3⟩:=h2.cons;obtain⟨a3,rfl,b3⟩:=mj c3;obtain⟨y4,r4,rfl,c4,h4⟩:=h3.cons;obtain⟨a4,rfl,b4⟩:=jl c4;exact⟨⟨a1,a2,a3,a4⟩,r4,by simp,⟨b1,b2,b3,b4⟩,h4⟩
def acd{ts:List Ty}{l:List X}(h:dP ([.row [.str],.row [.int .i64,.str],.row [.str,.row [.str],.row [.str],.int .i64,.row [.str,.str],.str,.int .i64,.int .i64,.int .i64],.row [.int .i64,.str,.str,.int .i64],.int .i64,.int .i64]++ts) l):∃(a:Sh) (l':List X),l=aP .sl a++l'/\Ka a/\dP ts l':=by
 simp only[dG,e7] at h;obtain⟨a1,r1,rfl,b1,h1⟩:=ab5 (ts:=_) h;obtain⟨y2,r2,rfl,c2,h2⟩:=h1.cons;obtain⟨a2,rfl,b2⟩:=mh (aG .sl) wz c2 λr hr=>by obtain⟨a,l',rfl,h1,h2⟩:=ab7 (ts:=[]) (by simpa using hr);obtain rfl:=h2.nil;exact⟨a,by simp,h1⟩
 obtain⟨y3,r3,rfl,c3,h3⟩:=h2.cons;obtain⟨a3,rfl,b3⟩:=mh aZ tS c3 λr hr=>by obtain⟨a,l',rfl,h1,h2⟩:=ab3 (ts:=[]) (by simpa using hr);obtain rfl:=h2.nil;exact⟨a,by simp,h1⟩
 obtain⟨y4,r4,rfl,c4,h4⟩:=h3.cons;obtain⟨a4,rfl,b4⟩:=jl c4;obtain⟨y5,r5,rfl,c5,h5⟩:=h4.cons;obtain⟨a5,rfl,b5⟩:=jl c5;exact⟨⟨a1,a2,a3,a4,a5⟩,r5,by simp,⟨b1,b2,b3,b4,b5⟩,h5⟩
def ab6{ts:List Ty}{l:List X}(h:dP ([.int .i64,.str,.row [.str,.str],.str,.row [.int .i64],.str,.row [.str],.row [.str],.int .i64,.row [.str,.str],.str,.int .i64,.bool]++ts) l):∃(a:Fl) (l':List X),l=bZ .sl a++l'/\wv a/\dP ts l':=by
 simp only[dG,e7] at h;obtain⟨a1,r1,rfl,b1,h1⟩:=K2 (ts:=_) h;obtain⟨y2,r2,rfl,c2,h2⟩:=h1.cons;obtain⟨a2,rfl,b2⟩:=mh eI bI c2 λr hr=>by obtain⟨x,r',rfl,h1,h2⟩:=hr.cons;obtain rfl:=h2.nil;obtain⟨s,rfl,hs⟩:=jl h1;exact⟨s,rfl,hs⟩
 obtain⟨a3,r3,rfl,b3,h3⟩:=K1 (ts:=_) h2;obtain⟨y4,r4,rfl,c4,h4⟩:=h3.cons;obtain⟨a4,rfl⟩:=acf c4;exact⟨⟨a1,a2,a3,a4⟩,r4,by simp,⟨b1,b2,b3,trivial⟩,h4⟩
def ab9{ts:List Ty}{l:List X}(h:dP ([.int .i64,.str,.row [.str,.str],.str,.int .i64,.row [.str,.str],.str,.int .i64]++ts) l):∃(a:Se) (l':List X),l=dU .sl a++l'/\wD a/\dP ts l':=by simp only[dG,e7] at h;obtain⟨a1,r1,rfl,b1,h1⟩:=K2 (ts:=_) h;obtain⟨a2,r2,rfl,b2,h2⟩:=K3 (ts:=_) h1;obtain⟨y3,r3,rfl,c3,h3⟩:=h2.cons;obtain⟨a3,rfl,b3⟩:=jl c3;exact⟨⟨a1,a2,a3⟩,r3,by simp,⟨b1,b2,b3⟩,h3⟩
def ab8{ts:List Ty}{l:List X}(h:dP ([.int .i64,.int .i64,.str,.row [.str,.str],.str,.int .i64,.row [.str,.str],.str,.int .i64,.int .i64,.str,.row [.str],.row [.str],.int .i64,.row [.str,.str],.str,.int .i64,.int .i64]++ts) l):∃(a:Rp) (l':List X),l=cC .sl a++l'/\wA a/\dP ts l':=by simp only[dG,e7] at h;obtain⟨y1,r1,rfl,c1,h1⟩:=h.cons;obtain⟨a1,rfl,b1⟩:=jl c1;obtain⟨a2,r2,rfl,b2,h2⟩:=K2 (ts:=_) h1;obtain⟨a3,r3,rfl,b3,h3⟩:=K3 (ts:=_) h2;obtain⟨y4,r4,rfl,c4,h4⟩:=h3.cons;obtain⟨a4,rfl,b4⟩:=jl c4;obtain⟨y5,r5,rfl,c5,h5⟩:=h4.cons;obtain⟨a5,rfl,b5⟩:=jl c5;obtain⟨a6,r6,rfl,b6,h6⟩:=K1 (ts:=_) h5;obtain⟨y7,r7,rfl,c7,h7⟩:=h6.cons;obtain⟨a7,rfl,b7⟩:=jl c7;exact⟨⟨a1,a2,a3,a4,a5,a6,a7⟩,r7,by simp,⟨b1,b2,b3,b4,b5,b6,b7⟩,h7⟩
def tCa:List Ty:=[.row [.str],.row [.int .i64,.str],.row [.str,.row [.str],.row [.str],.int .i64,.row [.str,.str],.str,.int .i64,.int .i64,.int .i64],.row [.int .i64,.str,.str,.int .i64],.int .i64,.int .i64,.row [.int .i64,.str,.row [.str,.str],.str,.row [.int .i64],.str,.row [.str],.row [.str],.int .i64,.row [.str,.str],.str,.int .i64,.bool],.int .i64,.row [.int .i64,.str,.row [.str,.str],.str,.int .i64,.row [.str,.str],.str,.int .i64],.row [.int .i64,.int .i64,.str,.row [.str,.str],.str,.int .i64,.row [.str,.str],.str,.int .i64,.int .i64,.str,.row [.str],.row [.str],.int .i64,.row [.str,.str],.str,.int .i64,.int .i64]]
def ab4{ts:List Ty}{l:List X}(h:dP ([.row [.str],.row [.int .i64,.str],.row [.str,.row [.str],.row [.str],.int .i64,.row [.str,.str],.str,.int .i64,.int .i64,.int .i64],.row [.int .i64,.str,.str,.int .i64],.int .i64,.int .i64,.row [.int .i64,.str,.row [.str,.str],.str,.row [.int .i64],.str,.row [.str],.row [.str],.int .i64,.row [.str,.str],.str,.int .i64,.bool],.int .i64,.row [.int .i64,.str,.row [.str,.str],.str,.int .i64,.row [.str,.str],.str,.int .i64],.row [.int .i64,.int .i64,.str,.row [.str,.str],.str,.int .i64,.row [.str,.str],.str,.int .i64,.int .i64,.str,.row [.str],.row [.str],.int .i64,.row [.str,.str],.str,.int .i64,.int .i64]]++ts) l):∃(a:Ca) (l':List X),l=bU .sl a++l'/\oo a/\dP ts l':=by
 simp only[dG,e7] at h;obtain⟨a1,r1,rfl,b1,h1⟩:=acd (ts:=_) h;obtain⟨y2,r2,rfl,c2,h2⟩:=h1.cons;obtain⟨a2,rfl,b2⟩:=mh (bZ .sl) wv c2 λr hr=>by obtain⟨a,l',rfl,h1,h2⟩:=ab6 (ts:=[]) (by simpa using hr);obtain rfl:=h2.nil;exact⟨a,by simp,h1⟩
 obtain⟨y3,r3,rfl,c3,h3⟩:=h2.cons;obtain⟨a3,rfl,b3⟩:=jl c3;obtain⟨y4,r4,rfl,c4,h4⟩:=h3.cons;obtain⟨a4,rfl,b4⟩:=mh (dU .sl) wD c4 λr hr=>by obtain⟨a,l',rfl,h1,h2⟩:=ab9 (ts:=[]) (by simpa using hr);obtain rfl:=h2.nil;exact⟨a,by simp,h1⟩
 obtain⟨y5,r5,rfl,c5,h5⟩:=h4.cons;obtain⟨a5,rfl,b5⟩:=mh (cC .sl) wA c5 λr hr=>by obtain⟨a,l',rfl,h1,h2⟩:=ab8 (ts:=[]) (by simpa using hr);obtain rfl:=h2.nil;exact⟨a,by simp,h1⟩
 exact⟨⟨a1,a2,a3,a4,a5⟩,r5,by simp,⟨b1,b2,b3,b4,b5⟩,h5⟩
def arq{x:X}(h:qY (.agg tCa) x):∃a,x=.agg (bU .sl a)/\oo a:=by obtain⟨l,rfl,hl⟩:=ab2 h;obtain⟨a,l',rfl,h1,h2⟩:=ab4 (ts:=[]) (l:=l) (by rw[lZ];exact hl);obtain rfl:=h2.nil;exact⟨a,by simp,h1⟩
end M
namespace M
open Go
def cG{β:Type}(p:β->Bool):Nat->List β->Option (Nat×β)
 |_,[]=>none
 |i,b::l=>if p b=true then some (i,b) else cG p (i+1) l
def rQ{β:Type}{p:β->Bool}:∀{l:List β} {k i:Nat} {b:β},cG p k l=some (i,b)->k<=i/\l[i - k]?=some b/\p b=true
 |b'::l,k,i,b,h=>by
  unfold cG at h;split at h;·rename_i hp;cases h;exact⟨eP _,by simp,hp⟩
  ·obtain⟨h1,h2,h3⟩:=rQ h;refine⟨by omega,?_,h3⟩;rw[show i - k=(i - (k+1))+1 by omega,JU];exact h2
def Fh{β:Type}{p:β->Bool}:∀{l:List β} {k:Nat},cG p k l=none↔∀b∈l,¬p b=true
 |[],k=>by simp[cG]
 |b'::l,k=>by
  unfold cG;by_cases hp:p b'=true;·simp[hp]
  ·rw[aE hp,Fh];simp[hp]
def oM{xt:Nat}{β:Type}{f:ah->cF}(l:List β)(st:Nat->ah)(p:β->Bool)(R:Nat->β->ah)(E:ah)
  (h:∀i b,l[i]?=some b->i<l.length->f (st i)=if p b=true then some (.ret,R i b) else some (.normal,st (i+1)))
  (hend:f (st l.length)=some (.exit xt,E)):
  aJ f (st 0)=(cG p 0 l).elim (some (.exit xt,E)) λx=>some (.ret,R x.1 x.2):=by
 suffices H:∀(r:List β) (i:Nat),l.drop i=r->i<=l.length->aJ f (st i)=(cG p i r).elim (some (.exit xt,E)) λx=>some (.ret,R x.1 x.2) from H l 0 rfl (tH _)
 intro r;induction r with
 |nil=>
  intro i hr hi;have:i=l.length:=by have:=dF List.length hr;simp at this;omega
  subst this;rw[dV,hend];rfl
 |cons b r ih=>
  intro i hr hi;have hb:l[i]?=some b:=by have:=dF (λt:List β=>t[0]?) hr;simpa using this
  have hlt:i<l.length:=(aK.1 hb).1;have hd:l.drop (i+1)=r:=by have:=dF List.tail hr;simpa using this
  rw[dV,h i b hb hlt];unfold cG;by_cases hp:p b=true;·simp[hp,lv]
  ·simp only[hp];exact ih (i+1) hd hlt
def sM{xt:Nat}{β γ:Type}{f:ah->cF}(l:List β)(φ:β->List γ)(st:Nat->List γ->ah)(E:List γ->ah)
  (h:∀i b out,l[i]?=some b->i<l.length->out=(l.take i).flatMap φ->f (st i out)=some (.normal,st (i+1) (out++φ b)))
  (hend:∀out,out=l.flatMap φ->f (st l.length out)=some (.exit xt,E out)):
  aJ f (st 0 [])=some (.exit xt,E (l.flatMap φ)):=by
 suffices H:∀(k i:Nat),i+k=l.length->aJ f (st i ((l.take i).flatMap φ))=some (.exit xt,E (l.flatMap φ)) from H l.length 0 (by omega)
 intro k;induction k with
 |zero=>
  intro i hi;obtain rfl:i=l.length:=by omega
  rw[qR,dV,hend _ rfl];rfl
 |succ k ih=>
  intro i hi;have hlt:i<l.length:=by omega
  rw[dV,h i l[i] _ (cv hlt) hlt rfl];have:(l.take i).flatMap φ++φ l[i]=(l.take (i+1)).flatMap φ:=by rw[n9 hlt,Px];simp
  simp only[this];exact ih (i+1) (by omega)
def Ao{β γ:Type}(g:β->γ)(l:List β):l.flatMap (λb=>[g b])=l.map g:=by induction l<;>simp_all
def Fm{β γ:Type}(g:β->γ)(l:List β)(i:Nat)(h:i<=l.length):((l.take i).flatMap (λb=>[g b])).length=i:=by rw[Ao];simp;omega
def kf{β:Type}(p:β->Bool)(l:List β):Int:=foldI (λi g b=>if p b=true then (i:Int) else g) 0 l (-1)
def R8{β γ:Type}(go:Nat->γ->β->γ):∀(l:List β) (k:Nat) (b:β) (g:γ),foldI go k (l++[b]) g=go (k+l.length) (foldI go k l g) b
 |[],k,b,g=>rfl
 |a::l,k,b,g=>by show foldI go (k+1) (l++[b]) (go k g a)=go (k+(l.length+1)) (foldI go (k+1) l (go k g a)) b;rw[R8 go l (k+1) b,show k+1+l.length=k+(l.length+1) by omega]
def TB{β:Type}(p:β->Bool)(l:List β)(k:Nat)(h:k<l.length):kf p (l.take (k+1))=if p l[k]=true then (k:Int) else kf p (l.take k):=by unfold kf;rw[n9 h,R8,Ep,kW (by omega),mU]
def aiT{xt:Nat}{β:Type}{f:ah->cF}(l:List β)(st:Int->ah)(p:β->Bool)(R:Int->ah)(E:ah)
  (h:∀(i:Nat) b,l[i]?=some b->i<l.length->f (st i)=if p b=true then some (.ret,R i) else some (.normal,st (i - 1)))
  (hend:f (st (-1))=some (.exit xt,E)):
  aJ f (st (l.length - 1))=if kf p l<0 then some (.exit xt,E) else some (.ret,R (kf p l)):=by
 suffices H:∀k,k<=l.length->aJ f (st ((k:Int) - 1))=if kf p (l.take k)<0 then some (.exit xt,E) else some (.ret,R (kf p (l.take k))) by have:=H l.length (eP _);rwa [qR] at this
 intro k;induction k with
 |zero=>
  intro _;rw[dV];have:kf p (l.take 0)=-1:=by simp[kf,foldI]
  rw[this,show (((0:Nat):Int) - 1)=-1 by omega,hend];rfl
 |succ k ih=>
  intro hk;rw[dV,show (((k+1:Nat):Int) - 1)=(k:Int) by omega,h k l[k] (cv (by omega)) (by omega),TB p l k (by omega)];by_cases hp:p l[k]=true;·simp only[hp,cN];rw[aE (by omega)];rfl
  ·simp only[hp];exact ih (by omega)
def aiE{β:Type}{p:β->Bool}{l:List β}(h:kf p l<0):kf p l=-1:=by
 have H:∀k,k<=l.length->kf p (l.take k)=-1\/0<=kf p (l.take k):=by
  intro k;induction k with
  |zero=>intro _;exact .inl (by simp[kf,foldI])
  |succ k ih=>
   intro hk;rw[TB p l k (by omega)];split;·exact .inr (by omega)
   ·exact ih (by omega)
 have:=H l.length (eP _);rw[qR] at this;omega
end M
namespace M
open Go
def nN(b:UInt8):UInt8:=if 65<=b.toNat/\b.toNat<=90 then b+32 else b
def cy(s:ag):ag:=s.map nN
def tA(b:UInt8):Bool:=decide ((97<=b.toNat/\b.toNat<=122)\/(48<=b.toNat/\b.toNat<=57)\/b.toNat=45)
def eN(s:ag):Bool:=aN tA s && decide (1<=(s.length:Int)/\(s.length:Int)<=20)
def jd(lo:Nat)(b:UInt8):Bool:=decide (lo<=b.toNat/\b.toNat<=126)
def gv(s:ag):ag:=Lib.trimB s 32
def fX(s:ag):Bool:=aN (jd 32) s && decide (1<=(s.length:Int)/\(s.length:Int)<=60) && decide (gv s=s)
def cH(n:Int):ag:=if 0<=n/\n<=1000000 then bg n.toNat else []
def iE(b:UInt8):Bool:=decide (48<=b.toNat/\b.toNat<=57)
def kq(s:ag):Nat:=s.foldl (λx b=>10*x+b.toNat - 48) 0
def bn(s:ag):Option Nat:=if kq s<=1000000/\bg (kq s)=s then some (kq s) else none
def iq(s:ag):Bool:=aN (jd 33) s && decide (1<=(s.length:Int)/\(s.length:Int)<=60) && decide (s[0]?.map (λb:UInt8=>(b.toNat:Int))=some 47)
def Lb{α:Type}(p:α->Bool):∀(a b:List α),(∃x∈a,p x=false)->(a++b).dropWhile p=a.dropWhile p++b
 |[],b,h=>by simp at h
 |x::a,b,h=>by
  simp only[dG,zI];by_cases hx:p x=true
  ·simp only[hx,cN];refine Lb p a b ?_;obtain⟨y,hy,hp⟩:=h;rcases ck.1 hy with rfl|hy;·rw[hx] at hp;cases hp
   ·exact⟨y,hy,hp⟩
  ·simp[hx]
def La{α:Type}(p:α->Bool):∀(a:List α),(∀x∈a,p x=true)->a.dropWhile p=[]
 |[],_=>rfl
 |x::a,h=>by rw[zI,aA (h x (bH ..))];exact La p a λy hy=>h y (cl _ hy)
def Lc{α:Type}(p:α->Bool):∀{a:List α} {x:α},x∈a->p x=false->x∈a.dropWhile p
 |y::a,x,h,hp=>by
  rw[zI];by_cases hy:p y=true
  ·rw[aA hy];rcases ck.1 h with rfl|h;·rw[hy] at hp;cases hp
   ·exact Lc p h hp
  ·rw[aE hy];exact h
def Rt{α:Type}(p:α->Bool)(l:List α):∃a,l=a++l.dropWhile p/\∀x∈a,p x=true:=by refine⟨l.takeWhile p,(List.takeWhile_append_dropWhile).symm,λx hx=>?_⟩;have:=List.all_takeWhile (l:=l) (p:=p);exact pJ.1 this x hx
def apM(p:UInt8->Bool)(l:List UInt8):(l.reverse.dropWhile p).reverse.dropWhile p=((l.dropWhile p).reverse.dropWhile p).reverse:=by
 by_cases h:∃x∈l,p x=false
 ·obtain⟨x,hx,hp⟩:=h;obtain⟨a,e1,h1⟩:=Rt p l;have hm:x∈l.dropWhile p:=Lc p hx hp
  have e2:l.reverse.dropWhile p=(l.dropWhile p).reverse.dropWhile p++a.reverse:=by
   conv=>lhs;rw[e1,Pd]
   exact Lb p _ _ ⟨x,by simpa using hm,hp⟩
  rw[e2,Pd,Wj];obtain⟨b,e3,h3⟩:=Rt p (l.dropWhile p).reverse;generalize hd:(l.dropWhile p).reverse.dropWhile p=d at e3⊢;have ahr:∃y∈d,p y=false:=⟨x,by rw[<-hd];exact Lc p (by simpa using hm) hp,hp⟩;have e4:l.dropWhile p=d.reverse++b.reverse:=by have:=dF List.reverse e3;simpa using this
  have e5:(a++d.reverse).dropWhile p=d.reverse.dropWhile p:=by
   clear e1 e2 e3 hm;induction a with
   |nil=>rfl
   |cons y a ih=>rw[dG,zI,aA (h1 y (bH ..))];exact ih λz hz=>h1 z (cl _ hz)
  rw[e5]
  have e6:(l.dropWhile p).dropWhile p=l.dropWhile p:=by
   have:∀l:List UInt8,(l.dropWhile p).dropWhile p=l.dropWhile p:=by
    intro l;induction l with
    |nil=>rfl
    |cons y l ih=>
     rw[zI];by_cases hy:p y=true;·rw[aA hy];exact ih
     ·rw[aE hy,zI,aE hy]
   exact this l
  rw[e4] at e6;rw[Lb p d.reverse b.reverse (by obtain⟨y,hy,hp⟩:=ahr;exact⟨y,by simpa using hy,hp⟩)] at e6;exact List.append_cancel_right e6
 ·have h1:∀x∈l,p x=true:=λx hx=>by
   cases hp:p x with
   |true=>rfl
   |false=>exact absurd ⟨x,hx,hp⟩ h
  rw[La p l h1,La p l.reverse (λx hx=>h1 x (by simpa using hx))];rfl
def apL(s:ag):gv s=Lib.trimRightB (Lib.trimLeftB s 32) 32:=apM _ s
def VB(s:ag):(gv s).length<=s.length:=by unfold gv Lib.trimB Lib.trimLeftB Lib.trimRightB;have h1:=(Wv (l:=(List.dropWhile (λx=>x==32) s.reverse).reverse) (λx=>x==(32:UInt8))).length_le;have h2:=(Wv (l:=s.reverse) (λx=>x==(32:UInt8))).length_le;simp only[JW] at h1 h2;omega
def agV{α β:Type}(f:β->α->β)(l:List α)(a:α)(b:β):(l++[a]).foldl f b=f (l.foldl f b) a:=by simp
def K7(n:Nat):bg n≠[]:=by intro h;have:(bg n).length=Lib.nDigits n:=Lib.decDigits_length n;rw[h] at this;have h2:=Lib.nDigits_pos n;rw[<-this] at h2;simp at h2
def K9(n:Nat)(h:¬n<10):bg n=bg (n / 10)++[UInt8.ofNat (48+n%10)]:=by unfold bg;rw[Lib.decDigits,vW h]
def K8(n:Nat)(h:n<10):bg n=[UInt8.ofNat (48+n)]:=by unfold bg;rw[Lib.decDigits,oc h]
def wU(k:Nat)(h:k<10):(UInt8.ofNat (48+k)).toNat=48+k:=by rw[Pm];omega
def VI:∀n:Nat,kq (bg n)=n:=by
 intro n;induction n using Nat.strongRecOn with
 |ind n ih=>
  by_cases h:n<10;·rw[K8 n h];simp only[kq,qW,List.foldl_nil,wU n h];omega
  ·rw[K9 n h];have:=ih (n / 10) (by omega);unfold kq at this⊢;rw[agV,this,wU _ (by omega)];omega
def K6:∀n:Nat,aN iE (bg n)=true:=by
 intro n;induction n using Nat.strongRecOn with
 |ind n ih=>
  rw[ji];by_cases h:n<10;·rw[K8 n h];intro x hx;rw[fF.1 hx];unfold iE;rw[wU n h];simp;omega
  ·rw[K9 n h];intro x hx;rcases gO.1 hx with hx|hx;·exact ji.1 (ih _ (by omega)) x hx
   ·rw[fF.1 hx];unfold iE;rw[wU _ (by omega)];simp;omega
def mJ{s:ag}{n:Nat}:bn s=some n↔n<=1000000/\bg n=s:=by
 unfold bn;constructor
 ·intro h;split at h;·rename_i hc;cases h;exact hc
  ·cases h
 ·rintro ⟨h1,rfl⟩;rw[VI,aA ⟨h1,rfl⟩]
def um(n:Nat)(h:n<=1000000):(bg n).length<=7:=rK 6 n (by omega)
def HP(n:Nat)(h:n<=1000000):cH (n:Int)=bg n:=by unfold cH;rw[aA (by omega)];rfl
def T7(n:Nat)(h:n<=1000000):bn (cH n)=some n:=mJ.2 ⟨h,(HP n h).symm⟩
def ajq(s:ag)(h:s.length<=7):bn s=if s≠[]/\aN iE s=true/\cH (kq s)=s then some (kq s) else none:=by
 cases hr:bn s with
 |some n=>obtain⟨h1,rfl⟩:=mJ.1 hr;rw[VI,aA ⟨K7 n,K6 n,HP n h1⟩]
 |none=>
  rw[aE];rintro ⟨h1,h2,h3⟩
  have:bn s=some (kq s):=by
   refine mJ.2 ?_;unfold cH at h3;split at h3;·rename_i hc;exact⟨by omega,h3⟩
   ·exact absurd h3.symm h1
  rw[this] at hr;cases hr
def akn:∀(n acc:Nat) (l:List UInt8),acc*10^Lib.nDigits n+n<10000000000->Lib.parseUint10 acc (bg n++l)=Lib.parseUint10 (acc*10^Lib.nDigits n+n) l:=by
 intro n;induction n using Nat.strongRecOn with
 |ind n ih=>
  intro acc l hn;by_cases h:n<10;·rw[K8 n h];simp only[dG,e7,Lib.parseUint10,wU n h];rw[Lib.nDigits_small h] at hn⊢;rw[aA (by omega),aE (by omega),aE (by omega)];congr 1;omega
  ·rw[K9 n h,mV];have e:=Lib.nDigits_big h;rw[e,JK] at hn⊢;have hm:acc*(10^Lib.nDigits (n / 10)*10)=acc*10^Lib.nDigits (n / 10)*10:=by rw[Nat.mul_assoc]
   rw[hm] at hn⊢;rw[ih (n / 10) (by omega) acc _ (by omega)];have hd:=wU (n%10) (by omega);simp only[dG,e7,Lib.parseUint10,hd];rw[aA (by omega),aE (by omega),aE (by omega)];congr 1;omega
def P9(n:Nat)(h:n<=1000000):Lib.atoiAll (bg n)=.ok (n:Int):=by
 cases hd:bg n with
 |nil=>exact absurd hd (K7 n)
 |cons c r=>have hc:=ji.1 (K6 n) c (by rw[hd];exact bH ..);simp only[iE,bD] at hc;rw[Lib.atoiAll_plain c r (by omega) (by omega),<-hd];unfold Lib.parseMag;rw[aE (K7 n)];have:=akn n 0 [] (by omega);rw[lZ] at this;rw[this];simp only[Lib.parseUint10,Lib.signless];rw[aE (by omega)];simp
def ajp(s:ag)(n:Int)(h:Lib.atoiAll s=.ok n):(if 0<=n/\n<=1000000/\Lib.itoa n=s then some n.toNat else none)=bn s:=by
 split;·rename_i hc;symm;refine mJ.2 ⟨by omega,?_⟩;rw[<-Mw,<-hc.2.2];congr 1;omega
 ·rename_i hc;cases hr:bn s with
  |none=>rfl
  |some m=>
   obtain⟨h1,rfl⟩:=mJ.1 hr;rw[P9 m h1] at h;obtain rfl:(m:Int)=n:=by injection h
   exact absurd ⟨by omega,by omega,Mw m⟩ hc
def ajr(s:ag)(h:∀n,Lib.atoiAll s≠.ok n):bn s=none:=by
 cases hr:bn s with
 |none=>rfl
 |some m=>obtain⟨h1,rfl⟩:=mJ.1 hr;exact absurd (P9 m h1) (h m)
def T6(s:ag)(h:7<s.length):bn s=none:=by
 cases hr:bn s with
 |none=>rfl
 |some m=>obtain⟨h1,rfl⟩:=mJ.1 hr;have:=um m h1;omega
def bx(c:UInt8):ag->List ag
 |[]=>[[]]
 |b::s=>if b=c then []::bx c s else match bx c s with
  |w::ws=>(b::w)::ws
  |[]=>[[b]]
def zf(c:UInt8)(s:ag):bx c s≠[]:=by
 cases s with
 |nil=>simp[bx]
 |cons b s=>
  unfold bx;split;·simp
  ·split<;>simp
def iK(s:ag):List ag:=((bx 44 s).map gv).filter λw=>decide (w≠[])
end M
namespace M
open Go Go.RowKit
def q8(w w':World)(c:C):Prop:=(∀Z,c.ok w' Z)/\c.bare/\∀b k,c.fp b k->w.heap.size<=b
def YO[Bs]{P:Program}{f:FuncId}{xs:List X}{r:X}
  (h:∀w zl zb cs,cs.map C.er=xs->qX w zl zb cs->om w->Calls P f (cs.map C.val).toArray w λe w'=>∃c:C,e=.returned c.val/\c.er=r/\Below w.heap.size w w'/\q8 w w' c):
  AC P f xs λr' ps=>r'=r/\ps=xs.map λ_=>.dead:=by
 intro w zl zb cs e hA mD;refine(h w zl zb cs e hA λb hb=>(mD b hb).1).mono λe' w' ⟨c,he,hc,hb,c1,c2,c3⟩=>?_;have LN:Ext (λb k=>∃x∈cs,x.fp b k) w w':=⟨hb.os,hb.tape,hb.output,hb.size,λb hl=>.inl (hb.block b hl)⟩;refine⟨c,cs.map λx=>.dead x.val,zl,⟨he,by rw[cS];rfl,LN,⟨λx hx'=>?_,λx hx'=>?_,λx hx' b k hf=>?_,λb k hz=>kV (hA.cL b k (hz.imp id λh=>h.elim)) hb.size,?_⟩,λx hx' b k hf=>?_,λ_ _ h=>h,λ_ _ h=>.inl h⟩,hc,?_⟩
 ·rcases ck.1 hx' with rfl|hx';·exact c1 _
  ·obtain⟨y,_,rfl⟩:=bw.1 hx';trivial
 ·rcases ck.1 hx' with rfl|hx';·exact c2
  ·obtain⟨y,_,rfl⟩:=bw.1 hx';trivial
 ·rcases ck.1 hx' with rfl|hx';·have h1:=c3 b k hf;exact⟨λhz=>by have:=hA.cL b k (.inl hz);omega,λhz=>hz⟩
  ·obtain⟨y,_,rfl⟩:=bw.1 hx';exact hf.elim
 ·refine fG.2 ⟨λx hx b k hf hf'=>?_,?_⟩;·obtain⟨y,_,rfl⟩:=bw.1 hx;exact hf'
  ·refine vR.2 λi j hi hj _ b k hf=>?_;obtain⟨y,_,hy⟩:=bw.1 (bh hi);rw[<-hy] at hf;exact hf.elim
 ·rcases ck.1 hx' with rfl|hx';·exact .inr (c3 b k hf)
  ·obtain⟨y,_,rfl⟩:=bw.1 hx';exact hf.elim
 ·rw[<-e];simp[cS,kZ,C.er]
def eV(f0:FuncId)(g:List X->Option X):cB:=λf xs=>if f=f0 then (match g xs with
 |some r=>some (r,xs.map λ_=>.dead)
 |none=>none) else none
def vf[Bs]{P:Program}{f0:FuncId}{g:List X->Option X}
  (h:∀xs r,g xs=some r->∀w zl zb cs,cs.map C.er=xs->qX w zl zb cs->om w->Calls P f0 (cs.map C.val).toArray w λe w'=>∃c:C,e=.returned c.val/\c.er=r/\Below w.heap.size w w'/\q8 w w' c):(eV f0 g).Sound P:=λf xs o e=>by
 unfold eV at e;split at e
 ·rename_i hf;subst hf;split at e;·rename_i r hr;cases e;exact YO (h xs r hr)
  ·cases e
 ·cases e
def An{c:C}{s:ByteArray}(h:c.er=.str s):c=.str s:=by cases c<;>simp[C.er] at h;rw[h]
def map_nil{l:List C}(h:l.map C.er=[]):l=[]:=by simpa using h
def map_cons{l:List C}{x:X}{xs:List X}(h:l.map C.er=x::xs):∃c cs,l=c::cs/\c.er=x/\cs.map C.er=xs:=by
 cases l with
 |nil=>simp at h
 |cons c cs=>simp at h;exact⟨c,cs,rfl,h.1,h.2⟩
def As{w w':World}{s:ByteArray}(h:s.size<=9223372036854775807):q8 w w' (.str s):=⟨λ_=>h,trivial,λ_ _ h=>h.elim⟩
def agW{w w':World}{k:IntKind}{n:Int}:q8 w w' (.int k n):=⟨λ_=>trivial,trivial,λ_ _ h=>h.elim⟩
def Fq{w w':World}{b:Bool}:q8 w w' (.bool b):=⟨λ_=>trivial,trivial,λ_ _ h=>h.elim⟩
def zm(l:List C):C:=.av l.length λj=>l.getD j (.dead undef)
def Nw{α β:Type}(l:List α)(d:α)(g:α->β):((List.range l.length).map λj=>g (l.getD j d))=l.map g:=by
 apply List.ext_getElem;·simp
 ·intro i h1 h2;simp at h1;simp[h1]
def OK(l:List C):(zm l).er=.av (l.map C.er):=by show X.av _=_;rw[Nw l _ C.er]
def OL(l:List C):(zm l).val=.tuple (l.map C.val).toArray:=by show Value.tuple _=_;rw[Nw l _ C.val]
def Lu{w w':World}{l:List C}(h:∀c∈l,q8 w w' c/\c.gj/\∀b k,¬c.fp b k):q8 w w' (zm l):=by
 have hm:∀j,j<l.length->l.getD j (.dead undef)∈l:=λj hj=>by simp[List.getD,hj]
 refine⟨λZ=>⟨λj hj=>⟨(h _ (hm j hj)).2.1,(h _ (hm j hj)).1.1 Z⟩,λj hj b k hf=>((h _ (hm j hj)).2.2 b k hf).elim⟩,λj hj=>(h _ (hm j hj)).1.2.1,λb k hf=>?_⟩;obtain⟨j,hj,hf⟩:=hf;exact((h _ (hm j hj)).2.2 b k hf).elim
def agX{w w':World}{g:Nat}{t:TypeId}{l:List ByteArray}(hg:w.heap.size<=g)(hb:w'.heap[g]?=some (.cells (l.map Value.string).toArray t (0,0)))(hs:∀s∈l,s.size<=9223372036854775807):
  q8 w w' (.row .own 1 (some (g,0,none)) l.length l.length λi _=>.str (l.getD i ByteArray.empty)):=by
 have hm:∀j,j<l.length->l.getD j ByteArray.empty∈l:=λj hj=>by simp[List.getD,hj]
 refine⟨λZ=>⟨eP _,λi j hi hj=>⟨g,0,rfl,?_,λh=>absurd rfl h⟩,λi j hi hj=>⟨trivial,trivial,trivial,hs _ (hm i hi)⟩,λ_=>.inr ⟨g,0,_,t,(0,0),rfl,hb,?_,λk _ _=>?_⟩,λi j hi hj b k hf=>hf.elim⟩,trivial,λb k hf=>?_⟩
 ·obtain rfl:j=0:=by omega
  simp only[World.cell?,hb];simp[C.val,hi,Go.Value.oneCell']
 ·simp
 ·simp[World.frozen?,hb]
 ·obtain⟨_,h|⟨i,j,_,_,h⟩⟩:=hf;·obtain⟨o,h⟩:=h;have hgb:=dF Prod.fst (iz h);have hgb:g=b:=hgb;exact hgb▸hg
  ·exact h.elim
def akM(l:List ByteArray)(g cap:Nat):(C.row .own 1 (some (g,0,none)) l.length cap λi _=>.str (l.getD i ByteArray.empty)).er=.row .own 1 (l.map λs=>[.str s]):=by show X.row _ _ _=_;congr 1;have:=Nw l ByteArray.empty λs=>[X.str s];rw[<-this];rfl
def acE{c:C}{m:Md}{z:Nat}{xs:List (List X)}(h:c.er=.row m z xs):∃A len cap e,c=.row m z A len cap e/\len=xs.length/\∀i,i<len->xs[i]?=some ((List.range z).map λj=>(e i j).er):=by
 cases c with
 |row m' z' A len cap e=>simp only[C.er,X.row.injEq] at h;obtain⟨rfl,rfl,h⟩:=h;refine⟨A,len,cap,e,rfl,by rw[<-h];simp,λi hi=>?_⟩;rw[<-h];simp[hi]
 |_=>simp[C.er] at h
end M
namespace M
open Go
def qL(s:ag):X:=.str ⟨s.toArray⟩
def H6(l:List ag):X:=.row .own 1 (l.map eS)
def Jn:List X->Option X
 |[.str s,.str c]=>if c.data.toList=[32]/\s.size<=9223372036854775807 then some (qL (gv s.data.toList)) else none
 |_=>none
def DB:List X->Option X
 |[.str s,.str c]=>if s.size<4294967281/\1<=c.size then some (H6 (Lib.split s.data.toList c.data.toList)) else none
 |_=>none
def E1:List X->Option X
 |[.str s,.str c]=>if s.size<4294967281 then some (.av [qL (Lib.cut s.data.toList c.data.toList).1,qL (Lib.cut s.data.toList c.data.toList).2.1,.bool (Lib.cut s.data.toList c.data.toList).2.2]) else none
 |_=>none
def FC:List X->Option X
 |[.str s,.str c]=>some (.bool (Lib.hasPrefix s.data.toList c.data.toList))
 |_=>none
def E2:List X->Option X
 |[.str s,.str c]=>if s.size<=9223372036854775807 then some (.av [qL (Lib.trimPrefix s.data.toList c.data.toList),.bool (Lib.hasPrefix s.data.toList c.data.toList)]) else none
 |_=>none
def HO:List X->Option X
 |[.str s]=>if s.size<=9223372036854775807 then some (match bn s.data.toList with
  |some n=>.av [.int .i64 n,.bool true]
  |none=>.av [.int .i64 0,.bool false]) else none
 |_=>none
def rP(f:aL):ag:=f.name++[58,32]++f.value++[13,10]
def jm(l:List aL):ag:=l.flatMap rP
def rS:List (List X)->Option (List aL)
 |[]=>some []
 |[.str a,.str b]::r=>(rS r).map λl=>⟨a.data.toList,b.data.toList⟩::l
 |_=>none
def Fe:List X->Option X
 |[.row .af 2 rows]=>(match rS rows with
  |some l=>if (jm l).length<=140737488355328/\l.length<=140737488355328 then some (qL (jm l)) else none
  |none=>none)
 |_=>none
def R2:∀l:List aL,rS (l.map aF)=some l
 |[]=>rfl
 |f::l=>by simp[rS,R2 l]
def count_nil(c:UInt8):Lib.count [] [c]=0:=by rw[Lib.count_one];rfl
def alg(c:UInt8):∀s:ag,Lib.split s [c]=bx c s:=by
 have key:∀(n:Nat) (s:ag),s.length<=n->Lib.splitK [c] 0 (Lib.count s [c]) s=bx c s:=by
  intro n;induction n with
  |zero=>intro s hs;obtain rfl:s=[]:=PG.1 (by omega);rw[count_nil];rfl
  |succ n ih=>
   intro s hs;cases s with
   |nil=>rw[count_nil];rfl
   |cons b s=>
    simp at hs;have GK:=ih s (by omega);by_cases hb:b=c;·subst hb;rw[Lib.count_cons_eq,qS];have hi:Lib.index (b::s) [b]=0:=Lib.index_first (i:=0) (tH _) (by simp[Lib.occAt]) (λ_ h=>absurd h (Nat.not_lt_zero _));simp only[Lib.splitK,hi,bx];simp[GK]
    ·rw[Lib.count_cons_ne _ _ _ hb]
     have hnext:Lib.index (b::s) [c]=if Lib.index s [c]=-1 then -1 else Lib.index s [c]+1:=by
      have h:=Lib.index_drop (s:=b::s) (sub:=[c]) (i:=1) (λj hj=>by
       obtain rfl:j=0:=by omega
       simp[Lib.occAt,List.isPrefixOf,vU hb]) (by simp)
      simp at h;exact h
     rw[bx,aE hb,<-GK];cases hk:Lib.count s [c] with
     |zero=>simp[Lib.splitK]
     |succ k=>
      simp only[Lib.splitK,hnext];by_cases h1:Lib.index s [c]=-1;·simp[h1]
      ·have h0:0<=Lib.index s [c]:=by have:-1<=Lib.index s [c]:=Lib.index_ge _ _;omega
       have h2:¬Lib.index s [c]+1=-1:=by omega
       have h3:(Lib.index s [c]+1).toNat=(Lib.index s [c]).toNat+1:=by omega
       simp[h1,h2,h3]
 intro s;exact key s.length s (eP _)
def cP(c:UInt8):ag->Option (ag×ag)
 |[]=>none
 |b::s=>if b=c then some ([],s) else (cP c s).map λp=>(b::p.1,p.2)
def ah9(b c:UInt8)(s:ag):Lib.index (b::s) [c]=if b=c then 0 else if Lib.index s [c]=-1 then -1 else Lib.index s [c]+1:=by
 by_cases hb:b=c;·subst hb;rw[aA rfl];exact Lib.index_first (i:=0) (tH _) (by simp[Lib.occAt]) (λ_ h=>absurd h (Nat.not_lt_zero _))
 ·rw[aE hb]
  have h:=Lib.index_drop (s:=b::s) (sub:=[c]) (i:=1) (λj hj=>by
   obtain rfl:j=0:=by omega
   simp[Lib.occAt,List.isPrefixOf,vU hb]) (by simp)
  simp at h;exact h
def E4(c:UInt8):∀s:ag,Lib.cut s [c]=match cP c s with
  |some p=>(p.1,p.2,true)
  |none=>(s,[],false)
 |[]=>rfl
 |b::s=>by
  have ih:=E4 c s;have h0:-1<=Lib.index s [c]:=Lib.index_ge _ _;unfold Lib.cut at ih⊢;rw[ah9,cP];by_cases hb:b=c;·simp[hb]
  ·simp only[hb,di];by_cases h1:Lib.index s [c]=-1
   ·rw[h1] at ih;simp only[h1];cases hc:cP c s with
    |none=>simp
    |some p=>rw[hc] at ih;simp at ih
   ·have h2:0<=Lib.index s [c]:=by omega
    rw[aA h2] at ih;rw[aE h1,aA (by omega)];have h3:(Lib.index s [c]+1).toNat=(Lib.index s [c]).toNat+1:=by omega
    cases hc:cP c s with
    |none=>rw[hc] at ih;simp at ih
    |some p=>rw[hc] at ih;simp at ih;simp[h3,<-ih.1,<-ih.2]
end M
namespace M
open Go
def eO{β:Type}(p:β->Bool)(l:List β):Nat:=(l.takeWhile λb=> !p b).length
def TP{β:Type}{f:ah->cF}(l:List β)(st:Nat->ah)(p:β->Bool)(E:Nat->ah){x:Nat}
  (h:∀i b,l[i]?=some b->i<l.length->f (st i)=if p b=true then some (.exit x,E i) else some (.normal,st (i+1)))
  (hend:f (st l.length)=some (.exit x,E l.length)):aJ f (st 0)=some (.exit x,E (eO p l)):=by
 suffices H:∀(r:List β) (i:Nat),l.drop i=r->i<=l.length->aJ f (st i)=some (.exit x,E (i+eO p r)) by have:=H l 0 rfl (tH _);rwa [mU] at this
 intro r;induction r with
 |nil=>
  intro i hr hi;have:i=l.length:=by have:=dF List.length hr;simp at this;omega
  subst this;rw[dV,hend];rfl
 |cons b r ih=>
  intro i hr hi;have hb:l[i]?=some b:=by have:=dF (λt:List β=>t[0]?) hr;simpa using this
  have hlt:i<l.length:=(aK.1 hb).1;have hd:l.drop (i+1)=r:=by have:=dF List.tail hr;simpa using this
  rw[dV,h i b hb hlt];unfold eO;by_cases hp:p b=true;·simp[hp,fE]
  ·have:=ih (i+1) hd hlt;simp only[hp];have e:i+1+eO p r=i+(eO p r+1):=by omega
   rw[e] at this;simp[hp,fE,this,eO]
def Jq{β:Type}(p:β->Bool)(l:List β):eO p l<=l.length:=by unfold eO;exact(List.takeWhile_sublist _).length_le
def VH{β:Type}(p:β->Bool):∀(l:List β) (j:Nat) (b:β),j<eO p l->l[j]?=some b->p b=false
 |[],j,b,h,_=>by simp[eO] at h
 |a::l,j,b,h,hb=>by
  unfold eO at h;rw[Wl] at h;by_cases hp:p a=true;·simp[hp] at h
  ·simp only[hp,Pq,cN,dc] at h;cases j with
   |zero=>simp at hb;subst hb;simpa using hp
   |succ j=>exact VH p l j b (by unfold eO;omega) (by simpa using hb)
def VG{β:Type}(p:β->Bool):∀(l:List β) (b:β),l[eO p l]?=some b->p b=true
 |[],b,h=>by simp at h
 |a::l,b,h=>by
  unfold eO at h;rw[Wl] at h;by_cases hp:p a=true;·simp[hp] at h;subst h;exact hp
  ·simp only[hp,Pq,cN,dc,JU] at h;exact VG p l b h
def gd(c:UInt8)(f:ag->List ag)(s:ag)(i:Nat)(g:List ag×Nat)(b:Option UInt8):List ag×Nat:=match b with
 |some b=>if b=c then (g.1++f ((s.take i).drop g.2),i+1) else g
 |none=>(g.1++f ((s.take i).drop g.2),i+1)
def DA(c:UInt8):∀(cur rest:ag),(∀b∈cur,b≠c)->bx c (cur++rest)=match bx c rest with
  |w::ws=>(cur++w)::ws
  |[]=>[cur]
 |[],rest,_=>by
  cases h:bx c rest with
  |nil=>exact absurd h (zf c rest)
  |cons w ws=>simpa using h
 |a::cur,rest,h=>by rw[dG,bx,aE (h a (bH ..)),DA c cur rest λb hb=>h b (cl _ hb)];cases bx c rest<;>simp
def Ou(c:UInt8)(cur:ag)(h:∀b∈cur,b≠c):bx c cur=[cur]:=by have:=DA c cur [] h;simpa [bx] using this
def Oz:∀(p cur rest:ag),((p++(cur++rest)).take (p.length+cur.length)).drop p.length=cur
 |[],cur,rest=>by simp
 |a::p,cur,rest=>by have:=Oz p cur rest;simp only[dc,dG,show p.length+1+cur.length=p.length+cur.length+1 by omega,Wn,List.drop_succ_cons];exact this
def R9(c:UInt8)(f:ag->List ag)(s:ag):foldI (gd c f s) 0 (s.map some++[none]) ([],0)=((bx c s).flatMap f,s.length+1):=by
 suffices H:∀(rest p cur:ag) (out:List ag),s=p++cur++rest->(∀b∈cur,b≠c)->foldI (gd c f s) (p.length+cur.length) (rest.map some++[none]) (out,p.length)=(out++(bx c (cur++rest)).flatMap f,s.length+1) by have:=H s [] [] [] rfl (by simp);simpa using this
 intro rest;induction rest with
 |nil=>intro p cur out hs hc;simp only[lZ] at hs⊢;rw[Ou c cur hc];subst hs;have e1:=Oz p cur [];rw[lZ] at e1;simp[foldI,gd,e1]
 |cons b rest ih=>
  intro p cur out hs hc;simp only[bE,dG,foldI];by_cases hb:b=c
  ·subst hb;have e1:(s.take (p.length+cur.length)).drop p.length=cur:=by subst hs;have:=Oz p cur (b::rest);rwa [<-mV] at this
   have:=ih (p++cur++[b]) [] (out++f cur) (by simp[hs]) (by simp);simp only[iN,dc,k8,e7] at this;simp only[gd,cN,e1];rw[show p.length+cur.length+1=p.length+cur.length+(0+1)+0 by omega,this,DA b cur (b::rest) hc];simp[bx]
  ·have:=ih p (cur++[b]) out (by simp[hs]) (by
    intro x hx;rcases gO.1 hx with hx|hx;·exact hc x hx
    ·rw[fF.1 hx];exact hb)
   simp only[iN,dc,k8] at this;simp only[gd,hb,di];rw[show p.length+cur.length+1=p.length+(cur.length+(0+1)) by omega,this];simp
def VS(s:ag):iK s=(bx 44 s).flatMap λw=>if gv w≠[] then [gv w] else []:=by
 unfold iK;induction bx 44 s with
 |nil=>rfl
 |cons w l ih=>simp only[bE,JT,je,<-ih];by_cases h:gv w=[]<;>simp[h]
@[simp] def arQ(l:List UInt8):l.map (λb:UInt8=>[X.int IntKind.u8 (b.toNat:Int)])=l.map eU:=rfl
@[simp] def atL(l:List UInt8):tB (l.map eU)=some l:=VE l
def Oy(c:UInt8):∀s:ag,((bx c s).map List.length).sum+(bx c s).length=s.length+1
 |[]=>rfl
 |b::s=>by
  have:=Oy c s;unfold bx;split;·simp;omega
  ·cases h:bx c s with
   |nil=>exact absurd h (zf c s)
   |cons w ws=>rw[h] at this;simp at this⊢;omega
def Vf(c:UInt8)(s:ag):(bx c s).length<=s.length+1:=by have:=Oy c s;omega
def pE(c:UInt8)(s:ag):∀w∈bx c s,w.length<=s.length:=by
 intro w hw;have h:=Oy c s
 have h1:w.length+1<=((bx c s).map List.length).sum+(bx c s).length:=by
  clear h;revert hw;generalize bx c s=l;intro hw;induction l with
  |nil=>cases hw
  |cons x l ih=>
   rcases ck.1 hw with rfl|hw;·simp;omega
   ·have:=ih hw;simp;omega
 omega
def TQ(b:UInt8)(h:65<=b.toNat/\b.toNat<=90):(b+32).toNat=b.toNat+32:=by rw[UInt8.toNat_add];have:(32:UInt8).toNat=32:=rfl;omega
def VU{n:Int}(h1:0<=n)(h2:n<256):IntKind.u8.wrap n=n:=OR h1 h2
end M
namespace M
def Fk{β γ:Type}(φ:β->List γ)(hφ:∀b,(φ b).length<=1)(l:List β)(i:Nat):((l.take i).flatMap φ).length<=i:=by
 induction l generalizing i with
 |nil=>simp
 |cons b l ih=>
  cases i with
  |zero=>simp
  |succ i=>have:=ih i;have:=hφ b;simp only[Wn,je,iN];omega
end M
namespace M
@[simp] def aqR(i:Nat):((i:Int)<0)=False:=by simp
end M
namespace M
def jQ{α:Type}(f:α->α)(l:List α)(i:Nat):List α:=(l.take i).map f++l.drop i
@[simp] def asA{α:Type}(f:α->α)(l:List α)(i:Nat):(jQ f l i).length=l.length:=by simp[jQ];omega
def aiZ{α:Type}(f:α->α)(l:List α):jQ f l 0=l:=by simp[jQ]
def aiV{α:Type}(f:α->α)(l:List α):jQ f l l.length=l.map f:=by simp[jQ]
def aiW{α:Type}(f:α->α)(l:List α)(i:Nat)(h:i<l.length):(jQ f l i)[i]?=some l[i]:=by
 unfold jQ;rw[iM (by simp;omega)];have:i - ((l.take i).map f).length=0:=by simp;omega
 rw[this];simp[h]
def aiX{α:Type}(f:α->α)(l:List α)(i:Nat)(h:i<l.length)(h':i<(jQ f l i).length):(jQ f l i)[i]=l[i]:=by have:=aiW f l i h;rw[cv h'] at this;exact iz this
def aiY{α:Type}(f:α->α)(l:List α)(i:Nat)(h:i<l.length):(jQ f l i).set i (f l[i])=jQ f l (i+1):=by
 unfold jQ;rw[JH _ _ (by simp;omega),qV h];have:i - ((l.take i).map f).length=0:=by simp;omega
 rw[this,n9 h];simp only[Ee,jC,bE,mT,mV,dG,e7]
end M
namespace M
@[simp] def ai1(m:Md):∀(i:Nat) (l:List (List X)),X.cg m (l.take i)=(X.cg m l).take i
 |0,l=>by simp[X.cg]
 |i+1,[]=>by simp[X.cg]
 |i+1,a::l=>by simp[X.cg,ai1 m i l]
@[simp] def ai0(m:Md):∀(i:Nat) (l:List (List X)),X.cg m (l.drop i)=(X.cg m l).drop i
 |0,l=>by simp
 |i+1,[]=>by simp[X.cg]
 |i+1,a::l=>by simp[X.cg,ai0 m i l]
end M
namespace M
open Go
abbrev dN:ag:=[99,111,110,116,101,110,116,45,108,101,110,103,116,104]
abbrev jS:ag:=[99,97,99,104,101,45,99,111,110,116,114,111,108]
abbrev ki:ag:=[101,116,97,103]
abbrev gH:ag:=[118,97,114,121]
abbrev dM:ag:=[97,103,101]
abbrev oO:ag:=[105,102,45,110,111,110,101,45,109,97,116,99,104]
def zv{l:List ag}{a:ag}(h:a∈l):a.length<=wL wS l:=eZ (w:=wS) h
def Jt{l:List aL}{a:aL}(h:a∈l):a.name.length+a.value.length<=wL aH l:=eZ (w:=aH) h
def iC(fs:List aL)(n:ag):Option (Nat×aL):=cG (λf=>decide (f.name=n)) 0 fs
def iO(o:Option (Nat×aL)):Int:=o.elim (-1) λx=>(x.1:Int)
def cO(fs:List aL)(n:ag):Option ag:=(iC fs n).map λx=>x.2.value
def EE{fs:List aL}{n:ag}{i:Nat}{f:aL}(h:iC fs n=some (i,f)):∃hi:i<fs.length,fs[i]=f/\f.name=n:=by obtain⟨_,h2,h3⟩:=rQ h;simp at h2 h3;obtain⟨hi,e⟩:=aK.1 h2;exact⟨hi,e,h3⟩
def rU(fs:List aL)(n:ag):((cO fs n).getD []).length<=wL aH fs:=by
 unfold cO;cases h:iC fs n with
 |none=>simp
 |some x=>obtain⟨i,f⟩:=x;obtain⟨hi,rfl,_⟩:=EE h;have:=Jt (bh hi);simp;omega
def jH(fs:List aL)(x:aL×Nat):Bool:=eN x.1.name && fX x.1.value && decide (iO (iC fs x.1.name)=x.2) && !decide (x.1.name=dN)
def jG(fs:List aL):Bool:=aN (jH fs) fs.zipIdx && decide ((fs.length:Int)<=8)
def jz(fs:List aL)(n v:ag):List aL:=match iC fs n with
 |some x=>fs.set x.1 ⟨x.2.name,v⟩
 |none=>fs++[⟨n,v⟩]
def Vn{α:Type}(w:α->Nat):∀(l:List α) (i:Nat) (a:α) (h:i<l.length),((l.set i a).map w).sum+w l[i]=(l.map w).sum+w a
 |b::l,0,a,_=>by simp;omega
 |b::l,i+1,a,h=>by have:=Vn w l i a (by simpa using h);simp at this⊢;omega
def yE(fs:List aL)(n v:ag):wL aH (jz fs n v)<=wL aH fs+n.length+v.length+1:=by
 unfold jz;cases h:iC fs n with
 |none=>simp[wL,aH];omega
 |some x=>obtain⟨i,f⟩:=x;obtain⟨hi,rfl,h3⟩:=EE h;have:=Vn aH fs i ⟨fs[i].name,v⟩ hi;simp only[wL,JX];simp only[aH] at this⊢;omega
def eX(r:bF):Bool:=decide (100<=r.status/\r.status<=599) && jG r.fields && decide ((r.body.length:Int)<=120)
def nU(q:Rq):Bool:=decide (1<=q.method/\q.method<=4) && iq q.path && jG q.fields && decide ((q.body.length:Int)<=120)
def within(n:Int):Int:=max 0 (min n 1000000)
def plus(a b:Int):Int:=within (within a+within b)
def since(t now:Int):Int:=if now<=t then 0 else min (now - t) 1000000
def zU(fs:List aL):Int:=match cO fs dM with
 |some v=>match bn v with
  |some n=>n
  |none=>1000000
 |none=>0
def dR(fs:List aL)(t now:Int):Int:=plus (zU fs) (since t now)
def gN(fs:List aL):List ag:=(iK ((cO fs gH).getD [])).map cy
def yt(l:List ag):Bool:=aN eN l && decide ((l.length:Int)<=4)
def tg(q:Rq)(fs:List aL):Bool:=(cO q.fields oO).isSome && (cO fs ki).isSome && decide ((cO q.fields oO).getD []=(cO fs ki).getD [])
def eY(f:aL):Bool:=decide (f.name=ki)||decide (f.name=gH)||decide (f.name=jS)
def kT(r:bF):bF:=⟨304,r.fields.filter eY,[]⟩
def cX(o:Ob):Bool:=eX o.resp && iq o.path && decide (0<=o.t/\o.t<=1000000) && yt o.names && decide (o.names=gN o.resp.fields) && decide (o.values.length=o.names.length) && aN fX o.values
def en(b:Bn):Bool:=decide (0<=b.t/\b.t<=1000000) && (if b.kind=1\/b.kind=2 then iq b.a && decide (b.b=[]) else if b.kind=3 then eN b.a && fX b.b else false)
def mF(b:Bn)(o:Ob):Bool:=decide (o.t<=b.t) && en b && cX o && (if b.kind=1 then decide (o.path=b.a) else if b.kind=2 then b.a.isPrefixOf o.path else decide (cO o.resp.fields b.a=some b.b))
def gE(l:List Bn)(o:Ob):Bool:=l.any λb=>mF b o
def sX(w:Wr):Bool:=decide (0<=w.at_/\w.at_<=19)
def dy(d:bq):Bool:=aN sX d.pending && decide ((d.cells.length:Int)=20) && decide ((d.pending.length:Int)<=16)
def nT(l:List Kp)(i:Nat):Int:=if i=0 then 0 else (l[i - 1]?.map λk=>k.seq).getD 0
def sG(S:Int)(l:List Kp)(x:Kp×Nat):Bool:=cX x.1.obj && decide (5<=x.1.at_/\x.1.at_<=19) && aN (λy=>decide ¬y.at_=x.1.at_) (l.take x.2) && decide (nT l x.2<x.1.seq) && decide (x.1.seq<S)
def lH(S:Int)(l:List Kp)(x:Kp×Nat):Bool:=cX x.1.obj && decide (5<=x.1.at_/\x.1.at_<=19) && decide (1<=x.1.seq/\x.1.seq<=S - 1) && decide (x.2=0\/nT l x.2<x.1.seq) && aN (λy=>decide ¬y.at_=x.1.at_) (l.take x.2)
def vk(S:Int)(l:List Kp):Bool:=aN (sG S l) l.zipIdx
def Nu(l:List Kp)(i:Nat)(h:i<l.length):nT l (i+1)=l[i].seq:=by simp[nT,h]
def aiD(S:Int)(l:List Kp):aN (lH S l) l.zipIdx=vk S l:=by
 unfold vk;rw[JM,ji,ji];have hm:∀x∈l.zipIdx,∃h:x.2<l.length,x.1=l[x.2]:=λx hx=>by obtain⟨i,hi,rfl⟩:=zN hx;simp at hi;exact⟨by simpa using hi,by simp⟩
 have hz:∀i (h:i<l.length),(l[i],i)∈l.zipIdx:=λi h=>by
  have:(l.zipIdx)[i]'(by simpa using h)=(l[i],i):=by simp
  rw[<-this];exact bh _
 constructor
 ·intro h x hx;have h1:=h x hx;simp only[lH,sG,aC,bD] at h1⊢;obtain⟨⟨⟨⟨a,b⟩,c⟩,d⟩,e⟩:=h1;refine⟨⟨⟨⟨a,b⟩,e⟩,?_⟩,by omega⟩;rcases d with d|d;·rw[d];have:nT l 0=0:=rfl;omega
  ·exact d
 ·intro h
  have pos:∀i (hi:i<l.length),1<=l[i].seq:=by
   intro i;induction i with
   |zero=>intro hi;have h1:=h _ (hz 0 hi);simp only[sG,aC,bD] at h1;have:nT l 0=0:=rfl;omega
   |succ i ih=>intro hi;have h1:=h _ (hz (i+1) hi);simp only[sG,aC,bD] at h1;have h2:=Nu l i (by omega);have h3:=ih (by omega);omega
  intro x hx;have h1:=h x hx;obtain⟨hl,e⟩:=hm x hx;have h2:=pos x.2 hl;rw[<-e] at h2;simp only[lH,sG,aC,bD] at h1⊢;obtain⟨⟨⟨⟨a,b⟩,c⟩,d⟩,f⟩:=h1;exact⟨⟨⟨⟨a,b⟩,by omega⟩,.inr d⟩,c⟩
def Lm{β:Type}(p:β->Bool):∀(l:List β) (k:Nat),(cG p k l).isSome= !aN (λb=> !p b) l
 |[],_=>rfl
 |b::l,k=>by
  unfold cG aN;by_cases h:p b=true;·simp[h]
  ·have:=Lm p l (k+1);unfold aN at this;simp[h,this]
def zu{l:List Kp}{k:Kp}(h:k∈l):aW k.obj<=wL bN l:=eZ (w:=bN) h
def Jr{l:List Bn}{b:Bn}(h:b∈l):aY b<=wL aY l:=eZ (w:=aY) h
def lT(s:Sh):Bool:=dy s.aS && decide ((s.aI.length:Int)<=5) && decide (5<=s.next/\s.next<=19) && decide (1<=s.seq/\s.seq<=100000) && aN en s.aI && vk s.seq s.au
def answer(q:Rq)(o:Ob)(now:Int):bF:=
 let out:=if tg q o.resp.fields=true then kT o.resp else o.resp
 let w:bF:=⟨out.status,jz out.fields dM (cH (dR o.resp.fields o.t now)),out.body⟩
 if eX w=true then w else out
def Oq(r:bF):wL aH (r.fields.filter eY)<=wL aH r.fields:=by
 unfold wL;have h1:=WB eY r.fields
 have h2:((r.fields.filter eY).map aH).sum<=(r.fields.map aH).sum:=by
  generalize r.fields=l;induction l with
  |nil=>simp
  |cons a l ih=>rw[JT];split<;>simp<;>omega
 omega
end M
namespace M
open Go
def gi(_:Int)(k:Int):Int:=k
def eT(_:ag)(k:Int):ag:=Cn k
def TX(_:Bool)(k:Int):Bool:=decide (k.tmod 3=0)
def bG{α:Type}(_:α):Nat:=1
def eC{α:Type}(mk:α->Int->α)(n:α->Nat):List α->Int->List α
 |[],_=>[]
 |a::l,k=>mk a k::eC mk n l (k+(n a:Nat))
def nL{α:Type}(n:α->Nat)(l:List α):Nat:=(l.map n).sum
@[simp] def ai6{α:Type}(mk:α->Int->α)(n:α->Nat):∀(l:List α) (k:Int),(eC mk n l k).length=l.length
 |[],_=>rfl
 |a::l,k=>by simp[eC,ai6 mk n l]
def oN(a:aL)(k:Int):aL:=⟨eT a.name (k),eT a.value (k+1)⟩
def bz(a:aL):Nat:=2
def ajc(a:Wr)(k:Int):Wr:=⟨gi a.at_ (k),eT a.text (k+1)⟩
def Rc(a:Wr):Nat:=2
def ai9(a:Kp)(k:Int):Kp:=⟨⟨eT a.obj.path (k),eC eT bG a.obj.names (k+1),eC eT bG a.obj.values (k+1+(nL bG a.obj.names:Nat)),⟨gi a.obj.resp.status (k+1+(nL bG a.obj.names:Nat)+(nL bG a.obj.values:Nat)),eC oN bz a.obj.resp.fields (k+1+(nL bG a.obj.names:Nat)+(nL bG a.obj.values:Nat)+1),eT a.obj.resp.body (k+1+(nL bG a.obj.names:Nat)+(nL bG a.obj.values:Nat)+1+(nL bz a.obj.resp.fields:Nat))⟩,gi a.obj.t (k+1+(nL bG a.obj.names:Nat)+(nL bG a.obj.values:Nat)+1+(nL bz a.obj.resp.fields:Nat)+1)⟩,gi a.at_ (k+1+(nL bG a.obj.names:Nat)+(nL bG a.obj.values:Nat)+1+(nL bz a.obj.resp.fields:Nat)+1+1),gi a.seq (k+1+(nL bG a.obj.names:Nat)+(nL bG a.obj.values:Nat)+1+(nL bz a.obj.resp.fields:Nat)+1+1+1)⟩
def K0(a:Kp):Nat:=6+nL bG a.obj.names+nL bG a.obj.values+nL bz a.obj.resp.fields
def ai7(a:Bn)(k:Int):Bn:=⟨gi a.kind (k),eT a.a (k+1),eT a.b (k+1+1),gi a.t (k+1+1+1)⟩
def Ra(a:Bn):Nat:=4
def ai8(a:Fl)(k:Int):Fl:=⟨⟨gi a.q.method (k),eT a.q.path (k+1),eC oN bz a.q.fields (k+1+1),eT a.q.body (k+1+1+(nL bz a.q.fields:Nat))⟩,eC gi bG a.who (k+1+1+(nL bz a.q.fields:Nat)+1),⟨eT a.old.path (k+1+1+(nL bz a.q.fields:Nat)+1+(nL bG a.who:Nat)),eC eT bG a.old.names (k+1+1+(nL bz a.q.fields:Nat)+1+(nL bG a.who:Nat)+1),eC eT bG a.old.values (k+1+1+(nL bz a.q.fields:Nat)+1+(nL bG a.who:Nat)+1+(nL bG a.old.names:Nat)),⟨gi a.old.resp.status (k+1+1+(nL bz a.q.fields:Nat)+1+(nL bG a.who:Nat)+1+(nL bG a.old.names:Nat)+(nL bG a.old.values:Nat)),eC oN bz a.old.resp.fields (k+1+1+(nL bz a.q.fields:Nat)+1+(nL bG a.who:Nat)+1+(nL bG a.old.names:Nat)+(nL bG a.old.values:Nat)+1),eT a.old.resp.body (k+1+1+(nL bz a.q.fields:Nat)+1+(nL bG a.who:Nat)+1+(nL bG a.old.names:Nat)+(nL bG a.old.values:Nat)+1+(nL bz a.old.resp.fields:Nat))⟩,gi a.old.t (k+1+1+(nL bz a.q.fields:Nat)+1+(nL bG a.who:Nat)+1+(nL bG a.old.names:Nat)+(nL bG a.old.values:Nat)+1+(nL bz a.old.resp.fields:Nat)+1)⟩,TX a.oA (k+1+1+(nL bz a.q.fields:Nat)+1+(nL bG a.who:Nat)+1+(nL bG a.old.names:Nat)+(nL bG a.old.values:Nat)+1+(nL bz a.old.resp.fields:Nat)+1+1)⟩
def KZ(a:Fl):Nat:=8+nL bz a.q.fields+nL bG a.who+nL bG a.old.names+nL bG a.old.values+nL bz a.old.resp.fields
def ajb(a:Se)(k:Int):Se:=⟨⟨gi a.q.method (k),eT a.q.path (k+1),eC oN bz a.q.fields (k+1+1),eT a.q.body (k+1+1+(nL bz a.q.fields:Nat))⟩,⟨gi a.resp.status (k+1+1+(nL bz a.q.fields:Nat)+1),eC oN bz a.resp.fields (k+1+1+(nL bz a.q.fields:Nat)+1+1),eT a.resp.body (k+1+1+(nL bz a.q.fields:Nat)+1+1+(nL bz a.resp.fields:Nat))⟩,gi a.t (k+1+1+(nL bz a.q.fields:Nat)+1+1+(nL bz a.resp.fields:Nat)+1)⟩
def Rb(a:Se):Nat:=6+nL bz a.q.fields+nL bz a.resp.fields
def aja(a:Rp)(k:Int):Rp:=⟨gi a.client (k),⟨gi a.q.method (k+1),eT a.q.path (k+1+1),eC oN bz a.q.fields (k+1+1+1),eT a.q.body (k+1+1+1+(nL bz a.q.fields:Nat))⟩,⟨gi a.resp.status (k+1+1+1+(nL bz a.q.fields:Nat)+1),eC oN bz a.resp.fields (k+1+1+1+(nL bz a.q.fields:Nat)+1+1),eT a.resp.body (k+1+1+1+(nL bz a.q.fields:Nat)+1+1+(nL bz a.resp.fields:Nat))⟩,gi a.kind (k+1+1+1+(nL bz a.q.fields:Nat)+1+1+(nL bz a.resp.fields:Nat)+1),gi a.t (k+1+1+1+(nL bz a.q.fields:Nat)+1+1+(nL bz a.resp.fields:Nat)+1+1),⟨eT a.obj.path (k+1+1+1+(nL bz a.q.fields:Nat)+1+1+(nL bz a.resp.fields:Nat)+1+1+1),eC eT bG a.obj.names (k+1+1+1+(nL bz a.q.fields:Nat)+1+1+(nL bz a.resp.fields:Nat)+1+1+1+1),eC eT bG a.obj.values (k+1+1+1+(nL bz a.q.fields:Nat)+1+1+(nL bz a.resp.fields:Nat)+1+1+1+1+(nL bG a.obj.names:Nat)),⟨gi a.obj.resp.status (k+1+1+1+(nL bz a.q.fields:Nat)+1+1+(nL bz a.resp.fields:Nat)+1+1+1+1+(nL bG a.obj.names:Nat)+(nL bG a.obj.values:Nat)),eC oN bz a.obj.resp.fields (k+1+1+1+(nL bz a.q.fields:Nat)+1+1+(nL bz a.resp.fields:Nat)+1+1+1+1+(nL bG a.obj.names:Nat)+(nL bG a.obj.values:Nat)+1),eT a.obj.resp.body (k+1+1+1+(nL bz a.q.fields:Nat)+1+1+(nL bz a.resp.fields:Nat)+1+1+1+1+(nL bG a.obj.names:Nat)+(nL bG a.obj.values:Nat)+1+(nL bz a.obj.resp.fields:Nat))⟩,gi a.obj.t (k+1+1+1+(nL bz a.q.fields:Nat)+1+1+(nL bz a.resp.fields:Nat)+1+1+1+1+(nL bG a.obj.names:Nat)+(nL bG a.obj.values:Nat)+1+(nL bz a.obj.resp.fields:Nat)+1)⟩,gi a.aI (k+1+1+1+(nL bz a.q.fields:Nat)+1+1+(nL bz a.resp.fields:Nat)+1+1+1+1+(nL bG a.obj.names:Nat)+(nL bG a.obj.values:Nat)+1+(nL bz a.obj.resp.fields:Nat)+1+1)⟩
def abZ(a:Rp):Nat:=13+nL bz a.q.fields+nL bz a.resp.fields+nL bG a.obj.names+nL bG a.obj.values+nL bz a.obj.resp.fields
def DK(a:Rq)(k:Int):Rq:=⟨a.method,a.path,eC oN bz a.fields (k),a.body⟩
@[simp] def atC(a:Rq)(k:Int):(DK a k).method=a.method:=rfl
@[simp] def atD(a:Rq)(k:Int):(DK a k).path=a.path:=rfl
@[simp] def atB(a:Rq)(k:Int):(DK a k).body=a.body:=rfl
def OE(a:Rq):Nat:=nL bz a.fields
def zi(a:bF)(k:Int):bF:=⟨a.status,eC oN bz a.fields (k),a.body⟩
@[simp] def atG(a:bF)(k:Int):(zi a k).status=a.status:=rfl
@[simp] def atE(a:bF)(k:Int):(zi a k).body=a.body:=rfl
def alz(a:bF):Nat:=nL bz a.fields
def OC(a:Ob)(k:Int):Ob:=⟨a.path,eC eT bG a.names (k),eC eT bG a.values (k+(nL bG a.names:Nat)),zi a.resp (k+(nL bG a.names:Nat)+(nL bG a.values:Nat)),a.t⟩
@[simp] def aty(a:Ob)(k:Int):(OC a k).path=a.path:=rfl
@[simp] def atz(a:Ob)(k:Int):(OC a k).resp=zi a.resp (k+(nL bG a.names:Nat)+(nL bG a.values:Nat)):=rfl
@[simp] def atA(a:Ob)(k:Int):(OC a k).t=a.t:=rfl
def Vy(a:bq)(k:Int):bq:=⟨eC eT bG a.cells (k),eC ajc Rc a.pending (k+(nL bG a.cells:Nat))⟩
def OD(a:bq):Nat:=nL bG a.cells+nL Rc a.pending
def DL(a:Sh)(k:Int):Sh:=⟨Vy a.aS (k),eC ai9 K0 a.au (k+(OD a.aS:Nat)),eC ai7 Ra a.aI (k+(OD a.aS:Nat)+(nL K0 a.au:Nat)),a.next,a.seq⟩
@[simp] def atH(a:Sh)(k:Int):(DL a k).aS=Vy a.aS (k):=rfl
@[simp] def atJ(a:Sh)(k:Int):(DL a k).next=a.next:=rfl
@[simp] def atK(a:Sh)(k:Int):(DL a k).seq=a.seq:=rfl
def OG(a:Sh):Nat:=OD a.aS+nL K0 a.au+nL Ra a.aI
def Vx(a:Ca)(k:Int):Ca:=⟨DL a.ax (k),eC ai8 KZ a.bQ (k+(OG a.ax:Nat)),a.now,eC ajb Rb a.seen (k+(OG a.ax:Nat)+(nL KZ a.bQ:Nat)),eC aja abZ a.sent (k+(OG a.ax:Nat)+(nL KZ a.bQ:Nat)+(nL Rb a.seen:Nat))⟩
@[simp] def atq(a:Ca)(k:Int):(Vx a k).ax=DL a.ax (k):=rfl
@[simp] def atp(a:Ca)(k:Int):(Vx a k).now=a.now:=rfl
def zh(a:De)(k:Int):De:=⟨a.kind,a.client,DK a.q (k),a.a,zi a.resp (k+(OE a.q:Nat)),a.rA,eC TX bG a.keep (k+(OE a.q:Nat)+(alz a.resp:Nat))⟩
@[simp] def atv(a:De)(k:Int):(zh a k).kind=a.kind:=rfl
@[simp] def atu(a:De)(k:Int):(zh a k).client=a.client:=rfl
@[simp] def atw(a:De)(k:Int):(zh a k).q=DK a.q (k):=rfl
@[simp] def atr(a:De)(k:Int):(zh a k).a=a.a:=rfl
@[simp] def atx(a:De)(k:Int):(zh a k).resp=zi a.resp (k+(OE a.q:Nat)):=rfl
@[simp] def att(a:De)(k:Int):(zh a k).rA=a.rA:=rfl
end M
namespace M
open Go Go.RowKit
def om.cell[B:Bs]{w:World}(h:om w){b k:Nat}{v:Value}(hc:B.W0.cell? ⟨b,k,none⟩=some v):w.cell? ⟨b,k,none⟩=some v:=by
 have hb:b<B.W0.heap.size:=by
  rcases iL b B.W0.heap.size with h|h;·exact h
  ·simp[World.cell?,l9 h] at hc
 have e:=h b hb;simpa [World.cell?,e] using hc
def Y7(w:World):Below w.heap.size w w.drew:=(Below.refl _ _).drew
def Y8(w:World):∀n,Below w.heap.size w (w.drewN n):=λn=>⟨rfl,rfl,rfl,eP _,λ_ _=>rfl⟩
def DM{cs:List C}{s c:ByteArray}(h:cs.map C.er=[.str s,.str c]):cs=[.str s,.str c]:=by obtain⟨a,r,rfl,h1,h2⟩:=map_cons h;obtain⟨b,r',rfl,h3,h4⟩:=map_cons h2;obtain rfl:=map_nil h4;rw[An h1,An h3]
def ajL{cs:List C}{s:ByteArray}(h:cs.map C.er=[.str s]):cs=[.str s]:=by obtain⟨a,r,rfl,h1,h2⟩:=map_cons h;obtain rfl:=map_nil h2;rw[An h1]
def apH[Bs]{P:Program}{f0:FuncId}(hc:∀(s:ByteArray) (c:UInt8),c.toNat<128->∀w,s.size<=9223372036854775807->
  Calls P f0 #[.string s,.string ⟨#[c]⟩] w λe w'=>e=.returned (.string ⟨(Lib.trimB s.data.toList c).toArray⟩)/\(w'=w\/w'=w.drew)):(eV f0 Jn).Sound P:=
 vf λxs r hg w zl zb cs hx hA hs=>by
  unfold Jn at hg;split at hg
  ·rename_i s c;split at hg
   ·rename_i hh;cases hg;obtain rfl:=DM hx;have e:c=⟨#[32]⟩:=by have:=dF List.toArray hh.1;simp at this;cases c;simp at this;rw[this]
    subst e;refine(hc s 32 (by decide) w hh.2).mono λe w' ⟨he,hw⟩=>⟨.str ⟨(gv s.data.toList).toArray⟩,he,rfl,?_,As ?_⟩
    ·rcases hw with rfl|rfl;·exact Below.refl _ _
     ·exact Y7 _
    ·have:=VB s.data.toList;have h2:=hh.2;simp only[ByteArray.size] at h2⊢;simp at this⊢;omega
   ·cases hg
  ·cases hg
def alc[B:Bs]{P:Program}{f0:FuncId}{g1:Nat}{t9:TypeId}(hm:∃m,B.W0.cell? ⟨g1,0,none⟩=some (.int .i64 m))(hc:∀(s sep:ByteArray) (m:Int) (w:World),s.size<4294967281->w.cell? ⟨g1,0,none⟩=some (.int .i64 m)->1<=sep.size->
  Calls P f0 #[.string s,.string sep] w λe w'=>e=.returned (.slice (some ⟨w.heap.size,0,none⟩) (Lib.countB s sep+1) (Lib.countB s sep+1))/\w'=w.alloc (.cells ((Lib.splitB sep 0 (Lib.countB s sep) s).map Value.string).toArray t9)):(eV f0 DB).Sound P:=
 vf λxs r hg w zl zb cs hx hA hs=>by
  unfold DB at hg;split at hg
  ·rename_i s c;split at hg
   ·rename_i hh;cases hg;obtain rfl:=DM hx;obtain⟨m,hm⟩:=hm;have hlen:=Lib.splitB_all c hh.2 0 _ s rfl;have SO:=Lib.splitB_data c 0 (Lib.countB s c) s;refine(hc s c m w hh.1 (hs.cell hm) hh.2).mono λe w' ⟨he,hw⟩=>?_;subst hw;refine⟨.row .own 1 (some (w.heap.size,0,none)) (Lib.splitB c 0 (Lib.countB s c) s).length (Lib.splitB c 0 (Lib.countB s c) s).length λi _=>.str ((Lib.splitB c 0 (Lib.countB s c) s).getD i ByteArray.empty),?_,?_,?_,?_⟩;·rw[he,hlen];rfl
    ·rw[akM];unfold H6;congr 1;have:Lib.split s.data.toList c.data.toList=(Lib.splitB c 0 (Lib.countB s c) s).map (·.data.toList):=SO.symm;rw[this,cS];refine cm λx _=>?_;simp
    ·exact(Below.refl _ _).alloc (eP _) _
    ·refine agX (eP _) (t:=t9) ?_ λx hx=>?_;·show (w.heap.push _)[w.heap.size]?=_;simp
     ·have h1:x.data.toList∈Lib.splitK c.data.toList 0 (Lib.countB s c) s.data.toList:=by rw[<-SO];exact fR hx
      have h2:∀(k:Nat) (l:List UInt8),∀y∈Lib.splitK c.data.toList 0 k l,y.length<=l.length:=by
       intro k;induction k with
       |zero=>intro l y hy;simp[Lib.splitK] at hy;rw[hy];exact eP _
       |succ k ih=>
        intro l y hy;unfold Lib.splitK at hy;split at hy;·rw[fF.1 hy];exact eP _
        ·rcases ck.1 hy with rfl|hy;·simp;omega
         ·have:=ih _ _ hy;simp at this;omega
      have h3:=h2 _ _ _ h1;have h4:=hh.1;have e1:s.size=s.data.toList.length:=Lib.size_eq _;have e2:x.size=x.data.toList.length:=Lib.size_eq _;omega
   ·cases hg
  ·cases hg
def E3(s c:ag):(Lib.cut s c).1.length<=s.length/\(Lib.cut s c).2.1.length<=s.length:=by
 unfold Lib.cut;split;·simp;omega
 ·simp
def acg[B:Bs]{P:Program}{f0:FuncId}{g1:Nat}(hm:∃m,B.W0.cell? ⟨g1,0,none⟩=some (.int .i64 m))(hc:∀(s sep:ByteArray) (m:Int) (w:World),s.size<4294967281->w.cell? ⟨g1,0,none⟩=some (.int .i64 m)->
  Calls P f0 #[.string s,.string sep] w λe w'=>e=.returned (.tuple #[.string ⟨(Lib.cut s.data.toList sep.data.toList).1.toArray⟩,.string ⟨(Lib.cut s.data.toList sep.data.toList).2.1.toArray⟩,.bool (Lib.cut s.data.toList sep.data.toList).2.2])/\∃n,w'=w.drewN n):(eV f0 E1).Sound P:=
 vf λxs r hg w zl zb cs hx hA hs=>by
  unfold E1 at hg;split at hg
  ·rename_i s c;split at hg
   ·rename_i hh;cases hg;obtain rfl:=DM hx;obtain⟨m,hm⟩:=hm;have hl:=E3 s.data.toList c.data.toList;refine(hc s c m w hh (hs.cell hm)).mono λe w' ⟨he,n,hw⟩=>?_;subst hw;refine⟨zm [.str ⟨(Lib.cut s.data.toList c.data.toList).1.toArray⟩,.str ⟨(Lib.cut s.data.toList c.data.toList).2.1.toArray⟩,.bool (Lib.cut s.data.toList c.data.toList).2.2],?_,?_,Y8 _ n,Lu λx hx=>?_⟩;·rw[he,OL];rfl
    ·rw[OK];rfl
    ·have hz:s.data.toList.length<=4294967281:=by have e1:s.size=s.data.toList.length:=Lib.size_eq _;omega
     simp only[ck,JG,or_false] at hx;rcases hx with rfl|rfl|rfl;·exact⟨As (by simp only[ByteArray.size,qQ];omega),trivial,λ_ _ h=>h⟩
     ·exact⟨As (by simp only[ByteArray.size,qQ];omega),trivial,λ_ _ h=>h⟩
     ·exact⟨Fq,trivial,λ_ _ h=>h⟩
   ·cases hg
  ·cases hg
def ajo[B:Bs]{P:Program}{f0:FuncId}(hc:∀(s:ByteArray) (w:World),om w->s.size<=9223372036854775807->
  Calls P f0 #[.string s] w λe w'=>e=.returned (.tuple #[.int .i64 (((bn s.data.toList).getD 0:Nat):Int),.bool (bn s.data.toList).isSome])/\Below w.heap.size w w'):(eV f0 HO).Sound P:=
 vf λxs r hg w zl zb cs hx hA hs=>by
  unfold HO at hg;split at hg
  ·rename_i s;split at hg
   ·rename_i hh;cases hg;obtain rfl:=ajL hx;refine(hc s w hs hh).mono λe w' ⟨he,hw⟩=>?_;refine⟨zm [.int .i64 (((bn s.data.toList).getD 0:Nat):Int),.bool (bn s.data.toList).isSome],?_,?_,hw,Lu λx hx=>?_⟩;·rw[he,OL];rfl
    ·rw[OK];cases bn s.data.toList<;>rfl
    ·simp only[ck,JG,or_false] at hx;rcases hx with rfl|rfl;·exact⟨agW,trivial,λ_ _ h=>h⟩
     ·exact⟨Fq,trivial,λ_ _ h=>h⟩
   ·cases hg
  ·cases hg
def aif[B:Bs]{P:Program}{f0:FuncId}(htab:Lib.TabIs P B.W0 "internal/strconv.uint64pow10" .u64 Lib.pow10Tab) (hc:∀(n:Int),-9223372036854775808<=n->n<=9223372036854775807->∀w,Lib.TabIs P w "internal/strconv.uint64pow10" .u64 Lib.pow10Tab->
  Calls P f0 #[.int .i64 n] w λe w'=>e=.returned (.string ⟨(Lib.itoa n).toArray⟩)/\∃k os,w'=Sort.grow (w.drewN k) os):(jy f0 BG).Sound P:=
 ag4 λxs r h w hw=>by
  unfold BG at h;split at h
  ·rename_i n;split at h;·rename_i SM;cases h;exact hc n SM.1 SM.2 w (TabIs.same htab hw)
   ·cases h
  ·cases h
end M
namespace Go.Proofs
open Go.RowKit
def alu{P:Program}{w w':World}{n:String}{k:IntKind}{zs:List Int}(h:Lib.TabIs P w n k zs)(hw:Below w.heap.size w w'):Lib.TabIs P w' n k zs:=by
 unfold Lib.TabIs World.var? at h⊢;cases hg:P.globalNamed n with
 |none=>rw[hg] at h;cases h
 |some g=>
  rw[hg] at h;simp only[gw] at h⊢
  have hlt:g<w.heap.size:=by
   rcases iL g w.heap.size with h'|h';·exact h'
   ·rw[l9 h'] at h;cases h
  rw[hw.block g hlt];exact h
def VN[B:M.Bs]{P:Program}{w:World}{n:String}{cs:Array Value}(h:B.W0.var? P n=some cs)(hw:M.om w):w.var? P n=some cs:=by
 unfold World.var? at h⊢;cases hg:P.globalNamed n with
 |none=>rw[hg] at h;cases h
 |some g=>
  rw[hg] at h;simp only[gw] at h⊢
  have hlt:g<B.W0.heap.size:=by
   rcases iL g B.W0.heap.size with h'|h';·exact h'
   ·rw[l9 h'] at h;cases h
  rw[hw g hlt];exact h
def ag5(w:World)(k:Nat)(os:Array Obj):Below w.heap.size w (Sort.grow (w.drewN k) os):=
 ⟨rfl,rfl,rfl,by simp[Sort.grow,World.drewN],λb hb=>by show (w.heap++os)[b]?=w.heap[b]?;exact Pu hb⟩
def oQ(v:Int)(l:List UInt8):Bool:=decide (0<=v/\v<=1000000/\Lib.itoa v=l)
def yw(v:Int)(l:List UInt8):Int:=if oQ v l=true then v else 0
def ajm{P:Program}{f a:FuncId}{s:ByteArray}{w:World}(hmax:s.size<=9223372036854775807)
  (ahH:7<s.size->Calls P f #[.string s] w λe w'=>e=.returned (.tuple #[.int .i64 0,.bool false])/\w'=w)
  (hok:¬7<s.size->∀v,Lib.atoiAll s.data.toList=.ok v->Calls P f #[.string s] w λe w'=>e=.returned (.tuple #[.int .i64 (yw v s.data.toList),.bool (oQ v s.data.toList)])/\Below w.heap.size w w')
  (ahm:¬7<s.size->(∀v,Lib.atoiAll s.data.toList≠.ok v)->Calls P f #[.string s] w λe w'=>e=.returned (.tuple #[.int .i64 0,.bool false])/\Below w.heap.size w w'):
  Calls P f #[.string s] w λe w'=>e=.returned (.tuple #[.int .i64 (((M.bn s.data.toList).getD 0:Nat):Int),.bool (M.bn s.data.toList).isSome])/\Below w.heap.size w w':=by
 have hl:s.size=s.data.toList.length:=Lib.size_eq _;by_cases h:7<s.size;·rw[M.T6 _ (by omega)];exact(ahH h).mono λe w' ⟨he,hw⟩=>⟨he,hw▸Below.refl _ _⟩
 by_cases hv:∃v,Lib.atoiAll s.data.toList=.ok v
 ·obtain⟨v,hv⟩:=hv;rw[<-M.ajp _ _ hv];refine(hok h v hv).mono λe w' ⟨he,hw⟩=>⟨?_,hw⟩;rw[he];by_cases hb:oQ v s.data.toList=true;·have hb':=hb;unfold oQ at hb';rw[bD] at hb';rw[yw,aA hb,hb,aA hb'];simp;omega
  ·have hb':=hb;unfold oQ at hb';rw[bD] at hb';rw[yw,aE hb,aE hb'];simp[hb]
 ·have eM:∀v,Lib.atoiAll s.data.toList≠.ok v:=λv e=>hv ⟨v,e⟩;rw[M.ajr _ eM];exact ahm h eM
def atf{H:Type}{enc:TypeId×Value->H}{a:Assume}{C:Checked}{os:Os}{f:FuncId}{fn:Func}{s:ChangeSpec}{conds:List PathCond}{apart fresh handsOn again:Bool}{X:World->Array Value->Prop}
  (hX:∀(w w':World) (args:Array Value),w.heap=w'.heap->X w args->X w' args)
  (own:ownKnob C.prog.godebug=none)(started:os.Started)(noInit:C.prog.inits.idxOf? f=none)(hfn:C.prog.funcs[f]?=some fn)
  (witness:∃(w:World) (tape:Tape) (i:Input),w.os=os/\(w.forCall tape i).Shaped C.prog/\i.vars=[]/\Input.okWide C.prog (w.forCall tape i) .any w.heap.size f i/\
   ((s.pre enc C.prog fn conds apart (w.forCall tape i).memory i.args/\X (w.forCall tape i).memory i.args)/\sizedMet enc C.prog fn (OpenSpec.ofChange s) apart (w.forCall tape i).memory i.args)/\a.holds C.prog (lone (Frame.enter C.prog f i.args .normal) [] (w.forCall tape i)))
  (contract:∀(W:World) (base:Nat) (args:Array Value) (ds gs:List (DataW H)) (before:List MemPlace),
   (∀(j:Nat) t v,fn.params[j]?=some t->args[j]?=some v->Value.okWide C.prog W .any base t v)->
   DataW.Whole enc C.prog fn.params.toList s.vars apart W args.toList ds gs before->
   conds.all (PathCond.test C.prog ⟨fn.params.toList,ds,s.plain.varTypes C.prog,gs⟩)=true->
   (DataW.weightsEach C.prog (fn.params.toList++s.plain.varTypes C.prog) (ds++gs)).all (· <=reachBytes)=true->X W args->
   W.ShapedOpen C.prog->
   a.holds C.prog (lone (Frame.enter C.prog f args .normal) [] W)->
   Calls C.prog f args W λe W'=>∃v,e=.returned v/\s.post enc C.prog fn apart fresh handsOn again W args v W'):
  ReturnsInHanded a C os f .any (λw args=>(s.pre enc C.prog fn conds apart w args/\X w args)/\sizedMet enc C.prog fn (OpenSpec.ofChange s) apart w args) (s.post enc C.prog fn apart fresh handsOn again):=by refine returnsInHanded_of_calls own started noInit witness ?_;intro w tape i _ hsh _ hok hpre hholds;obtain⟨_,_,_,fn',ahA,_,_,_,_,hval⟩:=hok;have e:fn'=fn:=iz (ahA.symm.trans hfn);subst e;obtain⟨⟨⟨ds,gs,before,hw,hc⟩,hx⟩,hz⟩:=hpre;have hw':=DataW.Whole.of_heap (w':=w.forCall tape i) (by rfl) hw;refine(contract (w.forCall tape i) w.heap.size i.args ds gs before hval hw' hc (hz.weights hw) (hX _ _ _ (by rfl) hx) hsh hholds).mono λe W' ⟨v,he,hp⟩=>?_;subst he;exact ChangeSpec.post_blind hp
end Go.Proofs
namespace M
open Go Go.RowKit
def apI(s c:ag):(Lib.trimPrefix s c).length<=s.length:=by
 unfold Lib.trimPrefix;split;·simp
 ·exact eP _
def ach[B:Bs]{P:Program}{f0:FuncId}(hc:∀(s p:ByteArray) (w:World),
  Calls P f0 #[.string s,.string p] w λe w'=>e=.returned (.tuple #[.string ⟨(Lib.trimPrefix s.data.toList p.data.toList).toArray⟩,.bool (Lib.hasPrefix s.data.toList p.data.toList)])/\w'=w):(eV f0 E2).Sound P:=
 vf λxs r hg w zl zb cs hx hA hs=>by
  unfold E2 at hg;split at hg
  ·rename_i s c;split at hg
   ·rename_i hh;cases hg;obtain rfl:=DM hx;have hl:=apI s.data.toList c.data.toList;refine(hc s c w).mono λe w' ⟨he,hw⟩=>?_;subst hw;refine⟨zm [.str ⟨(Lib.trimPrefix s.data.toList c.data.toList).toArray⟩,.bool (Lib.hasPrefix s.data.toList c.data.toList)],?_,?_,Below.refl _ _,Lu λx hx=>?_⟩;·rw[he,OL];rfl
    ·rw[OK];rfl
    ·have e1:s.size=s.data.toList.length:=Lib.size_eq _;simp only[ck,JG,or_false] at hx;rcases hx with rfl|rfl;·exact⟨As (by simp only[ByteArray.size,qQ];omega),trivial,λ_ _ h=>h⟩
     ·exact⟨Fq,trivial,λ_ _ h=>h⟩
   ·cases hg
  ·cases hg
end M
namespace M
open Go Go.RowKit
def ahk[B:Bs]{P:Program}{f0:FuncId}(hc:∀(s p:ByteArray) (w:World),
  Calls P f0 #[.string s,.string p] w λe w'=>e=.returned (.bool (Lib.hasPrefix s.data.toList p.data.toList))/\w'=w):(eV f0 FC).Sound P:=
 vf λxs r hg w zl zb cs hx hA hs=>by
  unfold FC at hg;split at hg;·rename_i s c;cases hg;obtain rfl:=DM hx;refine(hc s c w).mono λe w' ⟨he,hw⟩=>?_;subst hw;exact⟨.bool (Lib.hasPrefix s.data.toList c.data.toList),he,rfl,Below.refl _ _,Fq⟩
  ·cases hg
end M
namespace M
open Go Go.RowKit
def jI(l:List (ByteArray×ByteArray)):List UInt8:=l.flatMap λf=>f.1.data.toList++[58,32]++f.2.data.toList++[13,10]
def Sf{l:List (ByteArray×ByteArray)}{k:Nat}(h:k<l.length):jI (l.take (k+1))=jI (l.take k)++(l[k].1.data.toList++[58,32]++l[k].2.data.toList++[13,10]):=by unfold jI;rw[n9 h,Px];simp only[je,Py,lZ]
def ag0{l:List (ByteArray×ByteArray)}{k:Nat}(h:k<l.length):(jI (l.take k)).length+l[k].1.size+2+l[k].2.size+2<=(jI l).length:=by
 have e:jI l=jI (l.take (k+1))++jI (l.drop (k+1)):=by unfold jI;rw[<-Px,Wm]
 rw[e,Sf h];simp only[iN,dc,k8];have h1:l[k].1.data.toList.length=l[k].1.size:=by rw[zz];rfl
 have h2:l[k].2.data.toList.length=l[k].2.size:=by rw[zz];rfl
 omega
def Fp(f:aL):ByteArray×ByteArray:=(⟨f.name.toArray⟩,⟨f.value.toArray⟩)
def Sd(l:List aL):jI (l.map Fp)=jm l:=by unfold jI jm;rw[List.flatMap_map];rfl
def acN:∀{rows:List (List X)} {l:List aL},rS rows=some l->rows=l.map aF:=by
 intro rows;induction rows with
 |nil=>intro l h;simp[rS] at h;subst h;rfl
 |cons r rows ih=>
  intro l h;match r,h with
  |[.str a,.str b],h=>
   simp only[rS] at h;cases hs:rS rows with
   |none=>rw[hs] at h;simp at h
   |some l'=>rw[hs] at h;simp at h;subst h;rw[ih hs];simp
def acK[B:Bs]{P:Program}{f0:FuncId}
  (hc:∀(A:Option Addr) (cap:Nat) (fs:List (ByteArray×ByteArray)) (w:World),
   (∀i f,fs[i]?=some f->∃g o,A=some ⟨g,o,none⟩/\g<w.heap.size/\w.cell? ⟨g,o+i*2,none⟩=some (.string f.1)/\w.cell? ⟨g,o+i*2+1,none⟩=some (.string f.2))->
   (jI fs).length<=140737488355328->fs.length<=140737488355328->
   Calls P f0 #[.slice A fs.length cap] w λe w'=>e=.returned (.string ⟨(jI fs).toArray⟩)/\Below w.heap.size w w'):(eV f0 Fe).Sound P:=
 vf λxs r hg w zl zb cs hx hA hs=>by
  unfold Fe at hg;split at hg
  ·rename_i rows;split at hg
   ·rename_i l hl;split at hg
    ·rename_i hh;cases hg;obtain⟨c1,r1,rfl,h1,h2⟩:=map_cons hx;obtain rfl:=map_nil h2;obtain⟨A,len,cap,e,rfl,hlen,hrow⟩:=acE h1;have hrows:=acN hl;have uy:len=l.length:=by rw[hlen,hrows];simp
     have ok:=hA.ok _ (bH ..);obtain⟨k1,k2,k3,k4,k5⟩:=ok
     have hcell:∀i f,(l.map Fp)[i]?=some f->∃g o,(A.map λq=>(⟨q.1,q.2.1,q.2.2⟩:Addr))=some ⟨g,o,none⟩/\g<w.heap.size/\w.cell? ⟨g,o+i*2,none⟩=some (.string f.1)/\w.cell? ⟨g,o+i*2+1,none⟩=some (.string f.2):=by
      intro i f hi;have hi2:i<l.length:=by have:=aK.1 hi;simpa using this.1
      obtain⟨g,o,lp,h0,_⟩:=k2 i 0 (by omega) (by omega);obtain⟨g',o',SA,h0',_⟩:=k2 i 1 (by omega) (by omega);rw[lp] at SA;cases SA;have hr:=hrow i (by omega);rw[hrows,dm,cv hi2] at hr;rw[dm,cv hi2] at hi;simp[List.range_succ,Fp] at hr hi;obtain⟨r1,r2⟩:=hr;have q1:=An r1.symm;have q2:=An r2.symm;rw[q1] at h0;rw[q2] at h0';subst hi;refine⟨g,o,by rw[lp];rfl,?_,by simpa [C.val] using h0,by simpa [C.val] using h0'⟩;rcases iL g w.heap.size with h|h;·exact h
      ·simp[World.cell?,l9 h] at h0
     have key:=hc (A.map λq=>(⟨q.1,q.2.1,q.2.2⟩:Addr)) cap (l.map Fp) w hcell (by rw[Sd];exact hh.1) (by simpa using hh.2);rw[Sd,dH,<-uy] at key;refine Calls.mono key λe w' ⟨he,hb⟩=>?_;exact⟨.str ⟨(jm l).toArray⟩,he,rfl,hb,As (by have:=hh.1;simp only[ByteArray.size,qQ];omega)⟩
    ·cases hg
   ·cases hg
  ·cases hg
end M
namespace M
open Go
def dr{β γ ε:Type}(go:Nat->γ->β->γ ⊕ ε):Nat->List β->γ->γ ⊕ ε
 |_,[],g=>.inl g
 |i,b::l,g=>match go i g b with
  |.inl g'=>dr go (i+1) l g'
  |.inr e=>.inr e
def Ck{xt:Nat}{β γ ε:Type}{f:ah->cF}(l:List β)(st:Nat->γ->ah)(go:Nat->γ->β->γ ⊕ ε)(E:γ->ah)(R:ε->Ex×ah)(Inv:Nat->γ->Prop)(g:γ)(h0:Inv 0 g)
  (h:∀i b g,l[i]?=some b->i<l.length->Inv i g->f (st i g)=(match go i g b with|.inl g'=>some (.normal,st (i+1) g')|.inr e=>lv (R e)))
  (hI:∀i b g g',l[i]?=some b->Inv i g->go i g b=.inl g'->Inv (i+1) g')
  (hend:∀g,Inv l.length g->f (st l.length g)=some (.exit xt,E g)):
  aJ f (st 0 g)=(match dr go 0 l g with|.inl g'=>some (.exit xt,E g')|.inr e=>lv (R e)):=by
 suffices H:∀(r:List β) (i:Nat) (g:γ),Inv i g->l.drop i=r->i<=l.length->aJ f (st i g)=(match dr go i r g with|.inl g'=>some (.exit xt,E g')|.inr e=>lv (R e)) from H l 0 g h0 rfl (tH _)
 intro r;induction r with
 |nil=>
  intro i g hi hr hl;have:i=l.length:=by have:=dF List.length hr;simp at this;omega
  subst this;rw[dV,hend g hi];rfl
 |cons b r ih=>
  intro i g hi hr hl
  have hlt:i<l.length:=by
   rcases iL i l.length with h|h;·exact h
   ·rw[Pv h] at hr;cases hr
  have hd:=qV hlt;rw[hr] at hd;have hb:l[i]?=some b:=by rw[cv hlt];cases hd;rfl
  have hr':l.drop (i+1)=r:=by cases hd;rfl
  rw[dV,h i b g hb hlt hi];unfold dr;cases hg:go i g b with
  |inl g'=>exact ih (i+1) g' (hI i b g g' hb hi hg) hr' hlt
  |inr e=>rcases hR:R e with ⟨x,s⟩;cases x<;>simp[fE,lv,hR]
def UZ{β γ ε:Type}{go:Nat->γ->β->γ ⊕ ε}{g:γ}(r:List β):∀(l:List β) (i:Nat),(∀j (h:j<l.length),go (i+j) g l[j]=.inl g)->dr go i (l++r) g=dr go (i+l.length) r g
 |[],i,_=>by simp
 |b::l,i,h=>by
  have h0:=h 0 (by simp);simp only[oa,JV] at h0;rw[dG,dr,h0];simp only;rw[UZ r l (i+1) (λj hj=>by have:=h (j+1) (by simp;omega);simp only[PD] at this;rw[show i+1+j=i+(j+1) by omega];exact this),dc]
  congr 1;omega
def UY{β γ ε:Type}(go:Nat->γ->β->γ ⊕ ε)(k:Nat):∀(l:List β) (i:Nat) (g:γ),dr (λj=>go (j+k)) i l g=dr go (i+k) l g
 |[],_,_=>rfl
 |b::l,i,g=>by
  rw[dr,dr];cases go (i+k) g b with
  |inl g'=>simp only;rw[UY go k l (i+1) g',show i+1+k=i+k+1 by omega]
  |inr e=>rfl
def NL{β γ ε:Type}{go:Nat->γ->β->γ ⊕ ε}{I:Nat->γ->Prop}{O:ε->Prop}(n:Nat)(h:∀i g b,i<n->I i g->(∀g',go i g b=.inl g'->I (i+1) g')/\∀e,go i g b=.inr e->O e):∀(l:List β) (i:Nat) (g:γ),i+l.length=n->I i g->(∀g',dr go i l g=.inl g'->I n g')/\∀e,dr go i l g=.inr e->O e
 |[],i,g,hn,hg=>by
  have:i=n:=by simpa using hn
  subst this;exact⟨λg' e=>by cases e;exact hg,λe h=>by cases h⟩
 |b::l,i,g,hn,hg=>by
  have h1:=h i g b (by simp at hn;omega) hg;rw[dr];cases gY:go i g b with
  |inl g'=>exact NL n h l (i+1) g' (by simp at hn;omega) (h1.1 g' gY)
  |inr e=>exact⟨λg' e=>(by cases e),λe he=>(by cases he;exact h1.2 _ gY)⟩
end M
namespace M
open Go
def crlf:ag:=[13,10]
def bu:ag:=[13,10,13,10]
def bP(c:UInt8)(s:ag):Prop:=∀b∈s,b≠c
def kj{c:UInt8}{s t:ag}:bP c (s++t)↔bP c s/\bP c t:=by
 unfold bP;constructor;·intro h;exact⟨λb hb=>h b (O8 _ hb),λb hb=>h b (O9 _ hb)⟩
 ·intro h b hb;rcases gO.1 hb with hb|hb;·exact h.1 b hb
  ·exact h.2 b hb
def vg{c b:UInt8}{s:ag}:bP c (b::s)↔b≠c/\bP c s:=by simp[bP]
def GJ(c:UInt8)(t:ag):∀(l r:ag),bP c l->Lib.index (l++r) (c::t)=if Lib.index r (c::t)=-1 then -1 else Lib.index r (c::t)+l.length
 |[],r,_=>by simp only[e7,k8];split<;>simp_all
 |b::l,r,h=>by
  rw[vg] at h;have ih:=GJ c t l r h.2;have hge:=Lib.index_ge r (c::t);rw[dG,Lib.index,ih];have hcb:(c==b)=false:=by simp;exact λe=>h.1 e.symm
  have hp:(c::t).isPrefixOf (b::(l++r))=false:=by simp[List.isPrefixOf,hcb]
  rw[hp];simp only[fS,di,dc];by_cases g:Lib.index r (c::t)=-1;·simp[g]
  ·have g2:¬(Lib.index r (c::t)+l.length=-1):=by omega
   simp only[g,di,eH,g2];omega
def ah8(c:UInt8)(t:ag)(l:ag)(h:bP c l):Lib.index l (c::t)=-1:=by have:=GJ c t l [] h;rw[lZ] at this;rw[this];rfl
def Mr(c:UInt8)(t:ag)(l r:ag)(h:bP c l):Lib.index (l++(c::t++r)) (c::t)=l.length:=by
 have h0:Lib.index (c::t++r) (c::t)=0:=by rw[dG,Lib.index,aA (by simp)]
 rw[GJ c t l _ h,h0];simp
def Ro(c:UInt8)(t:ag)(l r:ag)(h:bP c l):Lib.cut (l++(c::t++r)) (c::t)=(l,r,true):=by
 unfold Lib.cut;rw[Mr c t l r h,aA (by omega)];have e1:((l.length:Int)).toNat=l.length:=by omega
 rw[e1,Eg];have e2:l++(c::t++r)=(l++c::t)++r:=by simp
 have e3:l.length+(c::t).length=(l++c::t).length:=by simp
 rw[e2,e3,v8]
def alb(c:UInt8)(t:ag)(n:Nat)(l:ag)(h:bP c l):Lib.splitK (c::t) 0 n l=[l]:=by
 cases n with
 |zero=>rfl
 |succ n=>rw[Lib.splitK,ah8 c t l h];rfl
def alf(c:UInt8)(t:ag)(l:ag)(h:bP c l):Lib.split l (c::t)=[l]:=alb c t _ l h
def ald(c:UInt8)(t:ag)(l r:ag)(h:bP c l):Lib.split (l++(c::t++r)) (c::t)=l::Lib.split r (c::t):=by
 have hi:=Mr c t l r h;have e2:l++(c::t++r)=(l++c::t)++r:=by simp
 have e3:l.length+(c::t).length=(l++c::t).length:=by simp
 have hd:(l++(c::t++r)).drop (l.length+(c::t).length)=r:=by rw[e2,e3,v8]
 have hc:=Lib.count_hit (s:=l++(c::t++r)) (sub:=c::t) (by simp) hi;rw[hd] at hc;unfold Lib.split;rw[hc,qS,Lib.splitK,hi];have g:¬(((l.length:Int))==-1)=true:=by simp
 rw[aE g];have e1:((l.length:Int)).toNat=l.length:=by omega
 rw[e1,hd,oa,Eg]
def lines:List ag->ag
 |[]=>[]
 |[l]=>l
 |l::k::ls=>l++(crlf++lines (k::ls))
def TI:∀(ls:List ag),ls≠[]->(∀l∈ls,bP 13 l)->Lib.split (lines ls) crlf=ls
 |[l],_,h=>alf 13 [10] l (h l (bH ..))
 |l::k::ls,_,h=>by have ih:=TI (k::ls) (by simp) λx hx=>h x (cl _ hx);have:=ald 13 [10] l (lines (k::ls)) (h l (bH ..));show Lib.split (l++(crlf++lines (k::ls))) crlf=_;rw[show crlf=13::[10] from rfl,this];rw[show (13::[10]:ag)=crlf from rfl,ih]
def aiN:∀(ls:List ag),ls≠[]->(∀l∈ls,l≠[])->(∀l∈ls,bP 13 l)->∃b t,lines ls=b::t/\b≠13
 |[l],_,h,h2=>by obtain⟨b,t,e⟩:=Ww (h l (bH ..));exact⟨b,t,e,h2 l (bH ..) b (by rw[e];exact bH ..)⟩
 |l::k::ls,_,h,h2=>by obtain⟨b,t,e⟩:=Ww (h l (bH ..));exact⟨b,t++(crlf++lines (k::ls)),by show l++_=_;rw[e];rfl,h2 l (bH ..) b (by rw[e];exact bH ..)⟩
def TH(b:ag):∀(ls:List ag),ls≠[]->(∀l∈ls,l≠[])->(∀l∈ls,bP 13 l)->Lib.index (lines ls++(bu++b)) bu=(lines ls).length
 |[l],_,h,h2=>Mr 13 [10,13,10] l b (h2 l (bH ..))
 |l::k::ls,_,h,h2=>by
  have hk:∀x∈k::ls,x≠[]:=λx hx=>h x (cl _ hx);have hk2:∀x∈k::ls,bP 13 x:=λx hx=>h2 x (cl _ hx);have ih:=TH b (k::ls) (by simp) hk hk2;obtain⟨c,t,e,hc⟩:=aiN (k::ls) (by simp) hk hk2;have e0:lines (l::k::ls)++(bu++b)=l++(13::10::(lines (k::ls)++(bu++b))):=by show (l++(crlf++lines (k::ls)))++(bu++b)=_;simp[crlf]
  have e1:(lines (l::k::ls)).length=l.length+2+(lines (k::ls)).length:=by show (l++(crlf++lines (k::ls))).length=_;simp[crlf];omega
  have hcb:((13:UInt8)==c)=false:=by simp;exact λe=>hc e.symm
  have p1:bu.isPrefixOf (13::10::(lines (k::ls)++(bu++b)))=false:=by rw[e];simp[bu,List.isPrefixOf,hcb]
  have p2:bu.isPrefixOf (10::(lines (k::ls)++(bu++b)))=false:=by simp[bu,List.isPrefixOf]
  have e2:Lib.index (13::10::(lines (k::ls)++(bu++b))) bu=(lines (k::ls)).length+2:=by
   rw[Lib.index,p1,Lib.index,p2,ih];have q1:¬(((lines (k::ls)).length:Int)==-1)=true:=by simp
   simp only[fS,di,q1];have q2:¬(((lines (k::ls)).length:Int)+1==-1)=true:=by simp;omega
   simp only[q2];simp;omega
  rw[e0,show bu=13::[10,13,10] from rfl,GJ 13 [10,13,10] l _ (h2 l (bH ..)),show (13::[10,13,10]:ag)=bu from rfl,e2,e1,aE (by omega)];omega
def aiM(b:ag)(ls:List ag)(h0:ls≠[])(h:∀l∈ls,l≠[])(h2:∀l∈ls,bP 13 l):Lib.cut (lines ls++(bu++b)) bu=(lines ls,b,true):=by
 unfold Lib.cut;rw[TH b ls h0 h h2,aA (by omega)];have e1:(((lines ls).length:Int)).toNat=(lines ls).length:=by omega
 have e2:lines ls++(bu++b)=(lines ls++bu)++b:=by simp
 have e3:(lines ls).length+bu.length=(lines ls++bu).length:=by simp
 rw[e1,Eg,e3,e2,v8]
def oP:ag:=[72,84,84,80,47,49,46,49]
def iF(f:aL):ag:=f.name++([58,32]++f.value)
def Fs(fs:List aL):ag:=fs.flatMap λf=>iF f++crlf
def kg(b:ag):ag:=dN++([58,32]++bg b.length)
def kS(r:bF):ag:=oP++32::(bg r.status.toNat++[32,46])
def gp(r:bF):List ag:=kS r::(r.fields.map iF++[kg r.body])
def gm(r:bF):ag:=lines (gp r)++(bu++r.body)
def fW(r:bF):ag:=if eX r=true then gm r else []
def agY(fs:List aL):jm fs=Fs fs:=by unfold jm Fs;congr 1;funext f;simp[rP,iF,crlf]
def aiL(fs:List aL)(l z:ag):lines (l::(fs.map iF++[z]))=l++(crlf++(Fs fs++z)):=by
 induction fs generalizing l with
 |nil=>rfl
 |cons f fs ih=>show l++(crlf++lines (iF f::(fs.map iF++[z])))=_;rw[ih];simp[Fs]
def US(r:bF):gm r=kS r++(crlf++(jm r.fields++(kg r.body++(bu++r.body)))):=by unfold gm gp;rw[aiL,agY];simp
def rL(c:UInt8)(hc:c.toNat<48\/57<c.toNat)(n:Nat):bP c (bg n):=by intro b hb e;have:=ji.1 (K6 n) b hb;simp only[iE,bD] at this;subst e;omega
def Jl(c:UInt8)(hc:tA c=false){s:ag}(h:eN s=true):bP c s:=by intro b hb e;unfold eN at h;simp only[aC] at h;have:=ji.1 h.1 b hb;rw[e,hc] at this;cases this
def alA{s:ag}(h:eN s=true):s≠[]:=by rintro rfl;simp[eN] at h
def OP(c:UInt8)(hc:jd 32 c=false){s:ag}(h:fX s=true):bP c s:=by intro b hb e;unfold fX at h;simp only[aC] at h;have:=ji.1 h.1.1 b hb;rw[e,hc] at this;cases this
def Ff{fs:List aL}(h:jG fs=true){f:aL}(hf:f∈fs):eN f.name=true/\fX f.value=true/\f.name≠dN:=by unfold jG at h;simp only[aC] at h;obtain⟨i,hi,rfl⟩:=zN hf;have:=ji.1 h.1 (fs[i],i) (lX (i:=i) (by simp[hi]));unfold jH at this;simp only[aC,zG,Wq] at this;exact⟨this.1.1.1,this.1.1.2,this.2⟩
def RI{fs:List aL}(h:jG fs=true):fs.length<=8:=by unfold jG at h;simp only[aC,bD] at h;omega
def acI{f:aL}(h1:eN f.name=true)(h2:fX f.value=true):bP 13 (iF f)/\bP 10 (iF f)/\iF f≠[]:=by
 refine⟨?_,?_,?_⟩;·unfold iF;rw[kj,kj];exact⟨Jl 13 (by decide) h1,by simp[bP],OP 13 (by decide) h2⟩
 ·unfold iF;rw[kj,kj];exact⟨Jl 10 (by decide) h1,by simp[bP],OP 10 (by decide) h2⟩
 ·have:=alA h1;simp[iF]
def aiF(b:ag):bP 13 (kg b)/\bP 10 (kg b)/\kg b≠[]:=by
 refine⟨?_,?_,by simp[kg]⟩;·unfold kg;rw[kj,kj];exact⟨by simp[bP,dN],by simp[bP],rL 13 (by decide) _⟩
 ·unfold kg;rw[kj,kj];exact⟨by simp[bP,dN],by simp[bP],rL 10 (by decide) _⟩
def akQ(r:bF):bP 13 (kS r)/\bP 10 (kS r)/\kS r≠[]:=by
 refine⟨?_,?_,by simp[kS,oP]⟩;·unfold kS;rw[kj,vg,kj];exact⟨by simp[bP,oP],by decide,rL 13 (by decide) _,by simp[bP]⟩
 ·unfold kS;rw[kj,vg,kj];exact⟨by simp[bP,oP],by decide,rL 10 (by decide) _,by simp[bP]⟩
def UW{r:bF}(h:jG r.fields=true):∀l∈gp r,bP 13 l/\bP 10 l/\l≠[]:=by
 intro l hl;unfold gp at hl;simp only[ck,gO,bw,JG,or_false] at hl;rcases hl with rfl|⟨f,hf,rfl⟩|rfl;·exact akQ r
 ·have:=Ff h hf;exact acI this.1 this.2.1
 ·exact aiF r.body
end M
namespace M
open Go
open Classical in
noncomputable def mN{α:Type}(body:α->ag)(ok:α->Bool)(z:α)(s:ag):α×Bool:=
 if h:∃r,ok r=true/\body r=s then (h.choose,true) else (z,false)
def HT{α:Type}{body:α->ag}{ok:α->Bool}{z:α}{cand:ag->Option α}(hc:∀r,ok r=true->cand (body r)=some r)(s:ag):
  mN body ok z s=match cand s with
   |some r=>if ok r=true/\body r=s then (r,true) else (z,false)
   |none=>(z,false):=by
 unfold mN;by_cases h:∃r,ok r=true/\body r=s;·rw[oc h];have h1:=h.choose_spec;have h2:=hc _ h1.1;rw[h1.2] at h2;rw[h2];simp only;rw[aA h1]
 ·rw[vW h];cases hs:cand s with
  |none=>rfl
  |some r=>simp only;rw[aE];exact λhr=>h ⟨r,hr⟩
def UF{α:Type}{body:α->ag}{ok:α->Bool}{z:α}{s:ag}(h:(mN body ok z s).2=true):ok (mN body ok z s).1=true/\body (mN body ok z s).1=s:=by
 unfold mN at h⊢;by_cases g:∃r,ok r=true/\body r=s;·rw[oc g];exact g.choose_spec
 ·rw[vW g] at h;cases h
def UE{α:Type}{body:α->ag}{ok:α->Bool}{z:α}{s:ag}(h:(mN body ok z s).2=false):mN body ok z s=(z,false):=by
 unfold mN at h⊢;by_cases g:∃r,ok r=true/\body r=s;·rw[oc g] at h;cases h
 ·rw[vW g]
def UD{α:Type}{body:α->ag}{ok:α->Bool}{z:α}{cand:ag->Option α}(hc:∀r,ok r=true->cand (body r)=some r){r:α}(h:ok r=true):mN body ok z (body r)=(r,true):=by rw[HT hc,hc r h];simp only;rw[aA ⟨h,trivial⟩]
def Zg{α:Type}{body:α->ag}{ok:α->Bool}{cand:ag->Option α}(hc:∀r,ok r=true->cand (body r)=some r){a b:α}(ha:ok a=true)(hb:ok b=true)(h:body a=body b):a=b:=by have h1:=hc a ha;rw[h,hc b hb] at h1;exact(iz h1).symm
def colon:ag:=[58,32]
def mz:List ag->Option (List aL)
 |[]=>some []
 |l::ls=>if (Lib.cut l colon).2.2=true then (if ls=[]/\(Lib.cut l colon).1=dN then some [] else (mz ls).map λfs=>⟨(Lib.cut l colon).1,(Lib.cut l colon).2.1⟩::fs) else none
def lN(s:ag):Option (ag×List aL×ag):=
 if (Lib.cut s bu).2.2=true/\((Lib.split (Lib.cut s bu).1 crlf).length:Int)<=10 then (mz (Lib.split (Lib.cut s bu).1 crlf).tail).map λfs=>((Lib.split (Lib.cut s bu).1 crlf).headD [],fs,(Lib.cut s bu).2.1)
 else none
def kU(ws:List ag):Option ag:=match ws with
 |[_,w,_]=>some w
 |_=>none
def oX(s:ag):Option bF:=(lN s).bind λp=>(kU (bx 32 p.1)).map λw=>⟨(((bn w).getD 0:Nat):Int),p.2.1,p.2.2⟩
def cz:bF:=⟨0,[],[]⟩
noncomputable def de(s:ag):bF×Bool:=mN gm eX cz s
def DC(w r:ag)(h:bP 32 w):bx 32 (w++32::r)=w::bx 32 r:=by rw[DA 32 w _ h];simp[bx]
def UU(r:bF):bx 32 (kS r)=[oP,bg r.status.toNat,[46]]:=by unfold kS;rw[DC _ _ (by simp[bP,oP]),show ([32,46]:ag)=32::[46] from rfl,DC _ _ (rL 32 (by decide) _),Ou 32 [46] (by simp)]
def RZ(b:ag):∀(fs:List aL),(∀f∈fs,eN f.name=true/\fX f.value=true/\f.name≠dN)->mz (fs.map iF++[kg b])=some fs
 |[],_=>by have:Lib.cut (kg b) colon=(dN,bg b.length,true):=Ro 58 [32] dN (bg b.length) (by simp[bP,dN]);simp[mz,this]
 |f::fs,h=>by have hf:=h f (bH ..);have ih:=RZ b fs λx hx=>h x (cl _ hx);have:Lib.cut (iF f) colon=(f.name,f.value,true):=Ro 58 [32] f.name f.value (Jl 58 (by decide) hf.1);simp only[bE,dG,mz,this,ih];simp
def NC{r:bF}(h:eX r=true):(100<=r.status/\r.status<=599)/\jG r.fields=true/\r.body.length<=120:=by unfold eX at h;simp only[aC,bD] at h;exact⟨h.1.1,h.1.2,by omega⟩
def NJ{r:bF}(h:eX r=true):oX (gm r)=some r:=by
 obtain⟨hs,hf,hb⟩:=NC h;have hl:=UW hf;have hne:gp r≠[]:=by simp[gp]
 have hc:=aiM r.body (gp r) hne (λl h=>(hl l h).2.2) (λl h=>(hl l h).1);have hsp:=TI (gp r) hne (λl h=>(hl l h).1);have hlen:=RI hf;have hp:lN (gm r)=some (kS r,r.fields,r.body):=by unfold lN gm;rw[hc];simp only;rw[hsp,aA ⟨trivial,by simp[gp];omega⟩];have ht:(gp r).tail=r.fields.map iF++[kg r.body]:=rfl;rw[ht,RZ r.body r.fields λf hf'=>Ff hf hf'];rfl
 unfold oX;rw[hp];simp only[gw];rw[UU];have hn:bn (bg r.status.toNat)=some r.status.toNat:=mJ.2 ⟨by omega,rfl⟩;simp only[kU,cq,hn,vV];have:((r.status.toNat:Nat):Int)=r.status:=by omega
 rw[this]
def HZ{r:bF}{s:ag}(hs:s≠[]):fW r=s↔eX r=true/\gm r=s:=by
 unfold fW;constructor
 ·intro h;split at h;·rename_i g;exact⟨g,h⟩
  ·exact absurd h.symm hs
 ·rintro ⟨g,h⟩;rw[aA g,h]
def UT(r:bF):gm r≠[]:=by rw[US];simp[kS,oP]
def NF(r:bF):fW r=[]↔¬eX r=true:=by unfold fW;have:=UT r;split<;>simp_all
def akH(s:ag):de s=match oX s with
  |some r=>if fW r=s/\s≠[] then (r,true) else (cz,false)
  |none=>(cz,false):=by
 unfold de;rw[HT (cand:=oX) (λr h=>NJ h) s];cases oX s with
 |none=>rfl
 |some r=>
  simp only;by_cases hs:s=[];·subst hs;rw[aE (λh=>UT r h.2),aE (by simp)]
  ·by_cases g:fW r=s;·rw[aA ((HZ hs).1 g),aA ⟨g,hs⟩]
   ·rw[aE (mt (HZ hs).2 g),aE (λh=>g h.1)]
def nR:ag:=[111,98,106]
def sW(o:Ob):ag:=nR++32::(o.path++32::(cH o.t++32::bg o.values.length))
def jc(l:List ag):ag:=l.flatMap λv=>v++[10]
def mK(o:Ob):ag:=sW o++10::(jc o.values++gm o.resp)
def fm(o:Ob):ag:=if cX o=true then mK o else []
def dw:Ob:=⟨[],[],[],cz,0⟩
noncomputable def ij(s:ag):Ob×Bool:=mN mK cX dw s
def ga(s:ag):ag×ag:=(cP 10 s).getD (s,[])
def eE:Nat->ag->List ag×ag
 |0,s=>([],s)
 |n+1,s=>((ga s).1::(eE n (ga s).2).1,(eE n (ga s).2).2)
def lV(ws:List ag):Option (ag×ag×ag):=match ws with
 |[_,p,t,n]=>some (p,t,n)
 |_=>none
def K4(p r:ag)(h:bP 10 p):cP 10 (p++10::r)=some (p,r):=by
 induction p with
 |nil=>simp[cP]
 |cons b p ih=>rw[vg] at h;rw[dG,cP,aE h.1,ih h.2];rfl
def Rm(p r:ag)(h:bP 10 p):ga (p++10::r)=(p,r):=by unfold ga;rw[K4 p r h];rfl
def Vt(r:ag):∀(l:List ag),(∀v∈l,bP 10 v)->eE l.length (jc l++r)=(l,r)
 |[],_=>rfl
 |v::l,h=>by
  have e:jc (v::l)++r=v++10::(jc l++r):=by simp[jc]
  rw[e,dc,eE,Rm v _ (h v (bH ..)),Vt r l λx hx=>h x (cl _ hx)]
def VQ(c:UInt8){lo:Nat}(hc:jd lo c=false){s:ag}(h:aN (jd lo) s=true):bP c s:=by intro b hb e;have:=ji.1 h b hb;rw[e,hc] at this;cases this
def Ut{s:ag}(h:iq s=true):bP 32 s/\bP 10 s:=by unfold iq at h;simp only[aC] at h;exact⟨VQ 32 (by decide) h.1.1,VQ 10 (by decide) h.1.1⟩
def T8(c:UInt8)(hc:c.toNat<48\/57<c.toNat)(n:Int):bP c (cH n):=by
 unfold cH;split;·exact rL c hc _
 ·simp[bP]
structure zS (o:Ob):Prop where
 resp:eX o.resp=true
 path:iq o.path=true
 t0:0<=o.t
 t1:o.t<=1000000
 names:yt o.names=true
 VO:o.names=gN o.resp.fields
 len:o.values.length=o.names.length
 n4:o.names.length<=4
 vals:∀v∈o.values,fX v=true
def Cy{o:Ob}(h:cX o=true):zS o:=by
 unfold cX at h;simp only[aC,bD] at h;have hn:o.names.length<=4:=by have:=h.1.1.1.2;unfold yt at this;simp only[aC,bD] at this;omega
 obtain⟨⟨⟨⟨⟨⟨h1,h2⟩,h3,h4⟩,h5⟩,h6⟩,h7⟩,h8⟩:=h;exact⟨h1,h2,h3,h4,h5,h6,by omega,hn,λv hv=>ji.1 h8 v hv⟩
def Ub{o:Ob}(h:zS o):bx 32 (sW o)=[nR,o.path,cH o.t,bg o.values.length]:=by unfold sW;rw[DC _ _ (by simp[bP,nR]),DC _ _ (Ut h.path).1,DC _ _ (T8 32 (by decide) _),Ou 32 _ (rL 32 (by decide) _)]
def Ua{o:Ob}(h:zS o):bP 10 (sW o):=by unfold sW;rw[kj,vg,kj,vg,kj,vg];exact⟨by simp[bP,nR],by decide,(Ut h.path).2,by decide,T8 10 (by decide) _,by decide,rL 10 (by decide) _⟩
def VL{o:Ob}(h:zS o):∀v∈o.values,bP 10 v:=λv hv=>OP 10 (by decide) (h.vals v hv)
noncomputable def Cz(p:ag)(t n:Nat)(b:ag):Option Ob:=if n<=4 then (if (de (eE n b).2).2=true then some ⟨p,gN (de (eE n b).2).1.fields,(eE n b).1,(de (eE n b).2).1,t⟩ else none) else none
noncomputable def vj(s:ag):Option Ob:=(lV (bx 32 (ga s).1)).bind λw=>(bn w.2.1).bind λt=>(bn w.2.2).bind λn=>Cz w.1 t n (ga s).2
def ajz{o:Ob}(h:zS o):Cz o.path o.t.toNat o.values.length (jc o.values++gm o.resp)=some o:=by
 have h1:=Vt (gm o.resp) o.values (VL h);have h2:de (gm o.resp)=(o.resp,true):=UD (cand:=oX) (λr h=>NJ h) h.resp;unfold Cz;have hl:=h.len;have h4:=h.n4;rw[aA (by omega),h1];simp only;rw[h2,aA rfl];simp only;have ht:((o.t.toNat:Nat):Int)=o.t:=by have:=h.t0;omega
 rw[ht,<-h.VO]
def T9{o:Ob}(ho:cX o=true):vj (mK o)=some o:=by
 have h:=Cy ho;unfold vj mK;rw[Rm _ _ (Ua h)];simp only;rw[Ub h];have h0:=h.t0;have h1:=h.t1;have hl:=h.len;have h4:=h.n4
 have hn:bn (cH o.t)=some o.t.toNat:=by
  have e:o.t=((o.t.toNat:Nat):Int):=by omega
  rw[e,T7 _ (by omega)];simp;omega
 have hd:bn (bg o.values.length)=some o.values.length:=mJ.2 ⟨by omega,rfl⟩;simp only[lV,gw,hn,hd];exact ajz h
def ajs(o:Ob):mK o≠[]:=by simp[mK,sW,nR]
def Ug{o:Ob}{s:ag}(hs:s≠[]):fm o=s↔cX o=true/\mK o=s:=by
 unfold fm;constructor
 ·intro h;split at h;·rename_i g;exact⟨g,h⟩
  ·exact absurd h.symm hs
 ·rintro ⟨g,h⟩;rw[aA g,h]
def Uf(o:Ob):fm o=[]↔¬cX o=true:=by unfold fm;have:=ajs o;split<;>simp_all
def Uc{cand:ag->Option Ob}(hc:∀o,cX o=true->cand (mK o)=some o)(hn:cand []=none)(s:ag):ij s=match cand s with
  |some o=>if fm o=s then (o,true) else (dw,false)
  |none=>(dw,false):=by
 unfold ij;rw[HT (cand:=cand) hc s];cases hs:cand s with
 |none=>rfl
 |some o=>
  simp only;have hs0:s≠[]:=by rintro rfl;rw[hn] at hs;cases hs
  by_cases g:fm o=s;·rw[aA ((Ug hs0).1 g),aA g]
  ·rw[aE (mt (Ug hs0).2 g),aE g]
def ajt:vj []=none:=by simp[vj,ga,cP,bx,lV]
def aju(s:ag):ij s=match vj s with
  |some o=>if fm o=s then (o,true) else (dw,false)
  |none=>(dw,false):=Uc (λo h=>T9 h) ajt s
end M
namespace M
open Go
def gX(s:ag)(i:Nat)(g:List ag×Nat)(b:UInt8):(List ag×Nat) ⊕ (List ag×Nat):=
 if b=10/\1<=i/\s[i - 1]?=some 13/\g.2+1<=i then
  (if (s.take (i - 1)).drop g.2=[] then .inr (g.1,i+1) else .inl (g.1++[(s.take (i - 1)).drop g.2],i+1))
 else .inl g
def pY(s:ag):(List ag×Nat) ⊕ (List ag×Nat):=dr (λj=>gX s (j+1)) 0 (s.drop 1) ([],0)
def iH(s:ag):List ag:=match pY s with|.inl g=>g.1|.inr g=>g.1
def lB(s:ag):Int:=match pY s with|.inl g=>-1|.inr g=>g.2
def SQ(s:ag):pY s=dr (gX s) 0 s ([],0):=by
 unfold pY;rw[UY (gX s) 1];cases s with
 |nil=>rfl
 |cons b s=>
  rw[dr];have:gX (b::s) 0 ([],0) b=.inl ([],0):=by unfold gX;rw[aE (by omega)]
  rw[this];rfl
def LL(s A l R:ag)(out:List ag)(hs:s=A++(l++(crlf++R)))(hl:bP 13 l):
  dr (gX s) A.length (l++(crlf++R)) (out,A.length)=if l=[] then .inr (out,A.length+2) else dr (gX s) (A.length+l.length+2) R (out++[l],A.length+l.length+2):=by
 rw[UZ (crlf++R) l A.length (λj hj=>by
  unfold gX;rw[aE];rintro ⟨h1,h2,h3,h4⟩;simp only at h4;have hj0:0<j:=by omega
  rw[hs,iM (by omega),og (by omega)] at h3;exact hl 13 (lX h3) rfl)]
 have g1:gX s (A.length+l.length) (out,A.length) 13=.inl (out,A.length):=by unfold gX;rw[aE];rintro ⟨h1,_⟩;exact absurd h1 (by decide)
 have e1:s[A.length+l.length]?=some 13:=by
  rw[hs,iM (by omega),iM (by omega)];have:A.length+l.length - A.length - l.length=0:=by omega
  rw[this];rfl
 have e2:(s.take (A.length+l.length)).drop A.length=l:=by
  have:s=(A++l)++(crlf++R):=by rw[hs];simp
  rw[this,show A.length+l.length=(A++l).length by simp,Eg,v8]
 have g2:gX s (A.length+l.length+1) (out,A.length) 10=if l=[] then .inr (out,A.length+l.length+2) else .inl (out++[l],A.length+l.length+2):=by
  unfold gX;have e3:A.length+l.length+1 - 1=A.length+l.length:=by omega
  rw[e3,aA ⟨rfl,by omega,e1,by simp only;omega⟩];simp only;rw[e2]
 show dr (gX s) (A.length+l.length) (13::10::R) (out,A.length)=_;rw[dr,g1];simp only;rw[dr,g2];by_cases h:l=[];·subst h;simp
 ·simp only[h,di]
def SS(s b:ag):∀(ls:List ag) (A:ag) (out:List ag),ls≠[]->(∀l∈ls,l≠[])->(∀l∈ls,bP 13 l)->s=A++(lines ls++(bu++b))->
  dr (gX s) A.length (lines ls++(bu++b)) (out,A.length)=.inr (out++ls,A.length+(lines ls).length+4)
 |[l],A,out,_,h,h2,hs=>by
  have e:lines [l]++(bu++b)=l++(crlf++([]++(crlf++b))):=by simp[lines,bu,crlf]
  rw[e] at hs⊢;have h0:l≠[]:=h l (bH ..);rw[LL s A l _ out hs (h2 l (bH ..)),aE h0];have e2:A.length+l.length+2=(A++l++crlf).length:=by simp[crlf];omega
  rw[e2,LL s (A++l++crlf) [] b _ (by rw[hs];simp) (by simp[bP]),aA rfl];simp[crlf,lines];omega
 |l::k::ls,A,out,_,h,h2,hs=>by
  have e:lines (l::k::ls)++(bu++b)=l++(crlf++(lines (k::ls)++(bu++b))):=by show (l++(crlf++lines (k::ls)))++(bu++b)=_;simp
  rw[e] at hs⊢;have h0:l≠[]:=h l (bH ..);rw[LL s A l _ out hs (h2 l (bH ..)),aE h0];have e2:A.length+l.length+2=(A++l++crlf).length:=by simp[crlf];omega
  rw[e2,SS s b (k::ls) (A++l++crlf) (out++[l]) (by simp) (λx hx=>h x (cl _ hx)) (λx hx=>h2 x (cl _ hx)) (by rw[hs];simp)];have e3:(lines (l::k::ls)).length=l.length+2+(lines (k::ls)).length:=by show (l++(crlf++lines (k::ls))).length=_;simp[crlf];omega
  rw[e3];simp[crlf];omega
def ahv(ls:List ag)(b:ag)(h0:ls≠[])(h:∀l∈ls,l≠[])(h2:∀l∈ls,bP 13 l):pY (lines ls++(bu++b))=.inr (ls,(lines ls).length+4):=by have:=SS (lines ls++(bu++b)) b ls [] [] h0 h h2 rfl;rw[SQ];simpa using this
def SR(s:ag):wL wS (iH s)<=s.length/\lB s<=s.length/\-1<=lB s:=by
 have H:=NL (go:=gX s) (I:=λi g=>wL wS g.1<=g.2/\g.2<=i) (O:=λg=>wL wS g.1<=g.2/\g.2<=s.length) s.length (λi g b hi hg=>by
  unfold gX;by_cases hc:b=10/\1<=i/\s[i - 1]?=some 13/\g.2+1<=i
  ·rw[aA hc];by_cases hl:(s.take (i - 1)).drop g.2=[];·rw[aA hl];exact⟨λg' h=>(by cases h),λe h=>(by cases h;simp only;omega)⟩
   ·rw[aE hl];refine⟨λg' h=>?_,λe h=>(by cases h)⟩;cases h;simp only;have e:wL wS (g.1++[(s.take (i - 1)).drop g.2])=wL wS g.1+1+((s.take (i - 1)).drop g.2).length:=by simp[wL,wS];omega
    have e2:((s.take (i - 1)).drop g.2).length=i - 1 - g.2:=by simp;omega
    rw[e,e2];omega
  ·rw[aE hc];exact⟨λg' h=>(by cases h;omega),λe h=>(by cases h)⟩) s 0 ([],0) (by simp) (by simp[wL])
 rw[<-SQ] at H;unfold iH lB;cases hr:pY s with
 |inl g=>have:=H.1 g hr;simp only;omega
 |inr g=>have:=H.2 g hr;simp only;omega
def rJ(x:UInt8×UInt8):Bool:=decide (x.1=58) && decide (x.2=32)
def uh(l:ag):Option (Nat×(UInt8×UInt8)):=cG rJ 0 (l.zip (l.drop 1))
def ia(l:ag):List aL:=match uh l with
 |some (k,_)=>if l.take k=dN then [] else [⟨l.take k,l.drop (k+2)⟩]
 |none=>[]
def RS{β:Type}{p:β->Bool}:∀(l:List β) (k i:Nat) (b:β),l[i]?=some b->p b=true->(∀j,j<i->∀c,l[j]?=some c->p c=false)->cG p k l=some (k+i,b)
 |[],k,i,b,h,_,_=>by simp at h
 |a::l,k,0,b,h,hp,_=>by simp at h;subst h;simp[cG,hp]
 |a::l,k,i+1,b,h,hp,hj=>by have h0:=hj 0 (by omega) a (by simp);rw[JU] at h;have ih:=RS l (k+1) i b h hp λj hj' c hc=>hj (j+1) (by omega) c (by simpa using hc);simp only[cG,h0,fS,di,ih];congr 2;omega
def ab1(n v:ag)(h:bP 58 n):uh (n++([58,32]++v))=some (n.length,(58,32)):=by
 unfold uh
 have:=RS (p:=rJ) ((n++([58,32]++v)).zip ((n++([58,32]++v)).drop 1)) 0 n.length (58,32) (by
  rw[PC];constructor;·rw[iM (by omega)];simp
  ·rw[pK,iM (by omega)];have:1+n.length - n.length=1:=by omega
   rw[this];rfl) (by decide) (λj hj c hc=>by
  have h1:=(PC.1 hc).1;rw[og hj] at h1;have:=h c.1 (lX h1);simp[rJ,this])
 rw[this];simp
def TG{f:aL}(h:bP 58 f.name):ia (iF f)=if f.name=dN then [] else [f]:=by
 unfold ia iF;rw[ab1 _ _ h];simp only;have e1:(f.name++([58,32]++f.value)).take f.name.length=f.name:=Eg
 have e2:(f.name++([58,32]++f.value)).drop (f.name.length+2)=f.value:=by
  have:f.name++([58,32]++f.value)=(f.name++[58,32])++f.value:=by simp
  rw[this,show f.name.length+2=(f.name++[58,32]).length by simp,v8]
 rw[e1,e2]
def aiH(b:ag):ia (kg b)=[]:=by have:=TG (f:=⟨dN,bg b.length⟩) (by simp[bP,dN]);simp only[cN] at this;exact this
def aiJ(b:ag)(fs:List aL)(h:∀f∈fs,eN f.name=true/\fX f.value=true/\f.name≠dN):(fs.map iF++[kg b]).flatMap ia=fs:=by
 induction fs with
 |nil=>simp[aiH]
 |cons f fs ih=>have hf:=h f (bH ..);have ih:=ih λx hx=>h x (cl _ hx);rw[bE,dG,je,TG (Jl 58 (by decide) hf.1),aE hf.2.2,ih];rfl
def aiI(l:ag):wL aH (ia l)<=l.length+1:=by
 unfold ia;cases hc:uh l with
 |none=>simp[wL]
 |some x=>
  simp only;split;·simp[wL]
  ·simp[wL,aH];omega
def aiK(ls:List ag):wL aH (ls.flatMap ia)<=wL wS ls:=by
 induction ls with
 |nil=>simp[wL]
 |cons l ls ih=>have h:=aiI l;simp only[wL,je,iN,jC,Ef,dc,bE,tE,wS] at*;omega
def oY(s:ag):Option bF:=if 0<=lB s/\iH s≠[] then (kU (bx 32 ((iH s).headD []))).map λw=>⟨(((bn w).getD 0:Nat):Int),(iH s).tail.flatMap ia,s.drop (lB s).toNat⟩ else none
def akR{r:bF}(h:eX r=true):oY (gm r)=some r:=by
 obtain⟨hs,hf,hb⟩:=NC h;have hl:=UW hf;have hne:gp r≠[]:=by simp[gp]
 have hr:=ahv (gp r) r.body hne (λl h=>(hl l h).2.2) (λl h=>(hl l h).1);have e1:iH (gm r)=gp r:=by unfold iH gm;rw[hr]
 have e2:lB (gm r)=(((lines (gp r)).length+4:Nat):Int):=by unfold lB gm;rw[hr]
 unfold oY;rw[e1,e2,aA ⟨by omega,hne⟩];have e3:(gp r).headD []=kS r:=rfl;have e4:(gp r).tail=r.fields.map iF++[kg r.body]:=rfl
 have e5:(gm r).drop (((lines (gp r)).length+4:Nat):Int).toNat=r.body:=by
  unfold gm;have:lines (gp r)++(bu++r.body)=(lines (gp r)++bu)++r.body:=by simp
  rw[this,show (((lines (gp r)).length+4:Nat):Int).toNat=(lines (gp r)++bu).length by simp[bu];omega,v8]
 rw[e3,e4,e5,aiJ r.body r.fields λf hf'=>Ff hf hf',UU];have hn:bn (bg r.status.toNat)=some r.status.toNat:=mJ.2 ⟨by omega,rfl⟩;simp only[kU,cq,hn,vV];have:((r.status.toNat:Nat):Int)=r.status:=by omega
 rw[this]
def akS:oY []=none:=by unfold oY;rw[aE];intro h;have:lB []=-1:=rfl;omega
def akI(s:ag):de s=match oY s with
  |some r=>if fW r=s then (r,true) else (cz,false)
  |none=>(cz,false):=by
 unfold de;rw[HT (cand:=oY) (λr h=>akR h) s];cases hs:oY s with
 |none=>rfl
 |some r=>
  simp only;have hs0:s≠[]:=by rintro rfl;rw[akS] at hs;cases hs
  by_cases g:fW r=s;·rw[aA ((HZ hs0).1 g),aA g]
  ·rw[aE (mt (HZ hs0).2 g),aE g]
def akT{s:ag}{r:bF}(h:oY s=some r):aX r<=2*s.length:=by
 unfold oY at h;split at h
 ·obtain⟨w,hw,rfl⟩:=kY.1 h;have h1:=SR s;have h2:=aiK (iH s).tail;have h3:wL wS (iH s).tail<=wL wS (iH s):=by cases iH s<;>simp[wL];omega
  simp only[aX,wh];omega
 ·cases h
end M
namespace M
open Go
def DP{α:Type}(w:α->Nat)(l:List α)(n:Nat):wL w (l.take n)<=wL w l:=by have h:l=l.take n++l.drop n:=(Wm n l).symm;have h1:=dF List.length h;have h2:=dF (λl=>(l.map w).sum) h;simp only[iN] at h1;simp only[jC,Ef] at h2;unfold wL;omega
end M
namespace M
open Go
end M
namespace M
open Go
def fk{α:Type}(q:α->Int)(k:α):List α->List α
 |[]=>[k]
 |x::l=>if q k<q x then k::x::l else x::fk q k l
def iw{α:Type}(q:α->Int)(l:List α):List α:=l.foldl (λS k=>fk q k S) []
def sY{α:Type}(q:α->Int)(l:List α):Prop:=l.Pairwise λa b=>q a<=q b
def GM{α:Type}(q:α->Int)(k:α):∀l:List α,(fk q k l).Perm (k::l)
 |[]=>List.Perm.refl _
 |x::l=>by
  unfold fk;split;·exact List.Perm.refl _
  ·exact((GM q k l).cons x).trans (List.Perm.swap ..)
def aib{α:Type}{q:α->Int}{k x:α}{l:List α}:x∈fk q k l↔x=k\/x∈l:=by rw[(GM q k l).mem_iff];simp
def Ti{α:Type}(q:α->Int)(k:α)(l:List α):(fk q k l).length=l.length+1:=by rw[(GM q k l).length_eq];rfl
def Tj{α:Type}{q:α->Int}{k:α}:∀{l:List α},sY q l->sY q (fk q k l)
 |[],_=>by simp[fk,sY]
 |x::l,h=>by
  unfold sY at h⊢;rw[fG] at h;unfold fk;split
  ·rename_i g;rw[fG];refine⟨λy hy=>?_,fG.2 h⟩;rcases ck.1 hy with rfl|hy;·omega
   ·have:=h.1 y hy;omega
  ·rename_i g;rw[fG];refine⟨λy hy=>?_,Tj h.2⟩;rcases aib.1 hy with rfl|hy;·omega
   ·exact h.1 y hy
def ak9{α:Type}(q:α->Int)(l:List α)(k:α):iw q (l++[k])=fk q k (iw q l):=by simp[iw]
def Ot{α:Type}(q:α->Int)(l:List α):(iw q l).Perm l:=by
 suffices H:∀(l S:List α),(l.foldl (λS k=>fk q k S) S).Perm (S++l) by simpa [iw] using H l []
 intro l;induction l with
 |nil=>intro S;simp
 |cons k l ih=>intro S;rw[qW];refine(ih _).trans ?_;refine((GM q k S).append_right l).trans ?_;simpa using (List.perm_middle (a:=k) (l₁:=S) (l₂:=l)).symm
def Tg{α:Type}{q:α->Int}{k:α}:∀{l r:List α},(∀x∈l,q x<=q k)->fk q k (l++r)=l++fk q k r
 |[],r,_=>rfl
 |x::l,r,h=>by have h1:=h x (bH ..);rw[dG,fk,aE (by omega),Tg λy hy=>h y (cl _ hy)];rfl
def Th{α:Type}{q:α->Int}{k:α}{l:List α}(h:∀x∈l,q k<q x):fk q k l=k::l:=by
 cases l with
 |nil=>rfl
 |cons x l=>rw[fk,aA (h x (bH ..))]
def jO{α:Type}(q:α->Int)(k:α)(g:List α×Bool)(x:α):List α×Bool:=
 (if g.2=false/\q k<q x then g.1++[k,x] else g.1++[x],g.2||decide (q k<q x))
def GL{α:Type}(k:α)(g:List α×Bool):List α:=if g.2=true then g.1 else g.1++[k]
def aia{α:Type}(q:α->Int)(k:α)(l:List α)(out:List α):GL k (l.foldl (jO q k) (out,false))=out++fk q k l:=by
 have H:∀(l out:List α),l.foldl (jO q k) (out,true)=(out++l,true):=by
  intro l;induction l with
  |nil=>intro out;simp
  |cons x l ih=>intro out;rw[qW];simp only[jO,Pt,false_and,di,Bool.true_or];rw[ih];simp
 induction l generalizing out with
 |nil=>simp[GL,fk]
 |cons x l ih=>
  rw[qW];unfold fk;by_cases g:q k<q x;·simp only[jO,g,zE,cN,decide_true,Bool.or_true];rw[H];simp[GL]
  ·simp only[jO,g,and_false,di,Pn,Bool.or_false];rw[ih];simp
def xI{α:Type}(q:α->Int)(k:α):List α->List α->List α
 |[],done=>k::done
 |x::rev,done=>if q k<q x then xI q k rev (x::done) else (x::rev).reverse++k::done
def Tl{α:Type}{q:α->Int}{k:α}:∀(rev done:List α),sY q rev.reverse->(∀x∈done,q k<q x)->xI q k rev done=fk q k (rev.reverse++done)
 |[],done,_,h=>by simp[xI,Th h]
 |x::rev,done,ho,h=>by
  have e:(x::rev).reverse=rev.reverse++[x]:=by simp
  have ho':=ho;rw[e] at ho';unfold sY at ho';rw[vQ] at ho';unfold xI;split
  ·rename_i g
   rw[Tl rev (x::done) ho'.1 (λy hy=>by
    rcases ck.1 hy with rfl|hy;·exact g
    ·exact h y hy)]
   simp
  ·rename_i g
   rw[Tg (λy hy=>by
    rw[e] at hy;rcases gO.1 hy with hy|hy;·have:=ho'.2.2 y hy x (by simp);omega
    ·simp at hy;subst hy;omega),Th h]
end M
