/- A machine of values for loaded Go functions, sound for the calculus of calls; part 3; no conditions. -/
import Derived.Test.YteibmljflfeljaaGreatDoorMb
import Derived.Sort.Grow
import Derived.Deep.Draws
import Derived.Lib.LaidTab
import Derived.MakeChecks
import Derived.Laws.BitsLemmas
import Derived.ChangeArms
import Derived.ChangeReads
import Derived.ChangeOld
import Derived.ChangeShapes
import Derived.SizedLaws
import Derived.RowKit
import Derived.Below
import Derived.Lib.ItoaNum
import Derived.Lib.TrimByte
import Derived.Lib.AtoiAllCases
import Derived.Lib.SplitLaws
import Derived.Lib.Join
import Derived.Lib.IndexMore
import Derived.HandedShaped
import Derived.Lib.Strings
import Derived.Lib.Slices
import Derived.Lib.Walk
import Derived.Stop.LaidErr
import Derived.RangeFuncNested
import Derived.RangeFuncCalls
import Derived.OrdersHeld
import Derived.OrdersIn
set_option linter.defProp false
set_option linter.unusedSectionVars false
set_option linter.unusedVariables false
set_option linter.unusedSimpArgs false
namespace M
open Go
section
variable {C C':cE}{ok:FuncId->Bool}
def ahT{C:cE}{d:Option Nat}{s s':ah}{f:FuncId}{xs:List X}(h:qI d s (C f xs)=some s'):∃o,C f xs=some o/\∀C':cE,C' f xs=some o->qI d s (C' f xs)=some s':=by
 cases ho:C f xs with
 |none=>rw[ho] at h;cases h
 |some o=>rw[ho] at h;exact⟨o,rfl,λC' h'=>by rw[h'];exact h⟩
def ahS{C:cE}{d:Option Nat}{as:List (AV×PM)}{back:zV}{s':ah}{f:FuncId}{xs:List X}(h:Cn d as back (C f xs)=some s'):∃o,C f xs=some o/\∀C':cE,C' f xs=some o->Cn d as back (C' f xs)=some s':=by
 cases ho:C f xs with
 |none=>rw[ho] at h;cases h
 |some o=>rw[ho] at h;exact⟨o,rfl,λC' h'=>by rw[h'];exact h⟩
def QN{f:FuncId}{d:Option Nat}{as:List (AV×PM)}{fv:Option AV}{s s':ah}(h:rM C f d as fv s=some s'):
  ∃xs o,C f xs=some o/\∀C':cE,C' f xs=some o->rM C' f d as fv s=some s':=by
 unfold rM at h⊢;by_cases hb:X.bare.jl (bZ as s).1=true
 ·simp only[ax hb] at h⊢;cases hm:dS as with
  |none=>
   simp only[hm] at h⊢;by_cases hc:wV (bZ as s).2 fv f=true;·simp only[ax hc] at h⊢;obtain⟨o,h1,h2⟩:=ahT h;exact⟨_,o,h1,h2⟩
   ·simp only[aF hc] at h;cases h
  |some xn=>
   obtain⟨x,n⟩:=xn;simp only[hm] at h⊢;unfold EA at h⊢;split at h
   ·split at h;·rename_i y back h1 h2;simp only[h1,ax h2];obtain⟨o,h1,h2⟩:=ahS h;exact⟨_,o,h1,h2⟩
    ·cases h
   ·cases h
 ·simp only[aF hb] at h;cases h
def Ro{o:cA}{s s':ah}(h:cN C ok o s=some s'):(∀C':cE,cN C' ok o s=some s')\/∃f xs r,C f xs=some r/\∀C':cE,C' f xs=some r->cN C' ok o s=some s':=by
 cases o with
 |call d f as=>obtain⟨xs,o,h1,h2⟩:=QN (C:=C) h;exact .inr ⟨f,xs,o,h1,h2⟩
 |jZ d x as=>
  simp only[cN] at h⊢;split at h
  ·rename_i f caps hf;split at h;·rename_i hok;obtain⟨xs,o,h1,h2⟩:=QN (C:=C) h;refine .inr ⟨f,xs,o,h1,λC' h'=>?_⟩;simp only[ax hok];exact h2 C' h'
   ·cases h
  ·cases h
 |rL d f x as=>
  simp only[cN] at h⊢;split at h
  ·rename_i cs h1;split at h
   ·rename_i h2;simp only[ax h2];refine .inr ?_;cases ho:C f (.agg (b7 cs s).1::gC (b7 cs s).2 .dead as (as.map λ_=>.dead)) with
    |none=>rw[ho] at h;cases h
    |some r=>rw[ho] at h;exact⟨f,_,r,ho,λC' h'=>by rw[h'];exact h⟩
   ·cases h
  ·cases h
 |_=>exact .inl λ_=>h
def Rk{g:G}{s s':ah}(h:eG C ok g s=some s'):(∀C':cE,eG C' ok g s=some s')\/∃f xs r,C f xs=some r/\∀C':cE,C' f xs=some r->eG C' ok g s=some s':=by
 obtain⟨gg,o⟩:=g;cases gg with
 |none=>exact Ro h
 |some tb=>
  obtain⟨t,b⟩:=tb;simp only[eG] at h⊢;split at h
  ·rename_i v hv;split at h;·rename_i h1;simp only[hv,ax h1];exact Ro h
   ·rename_i h1;simp only[hv,aF h1];exact .inl λ_=>h
  ·exact .inl λ_=>h
  ·cases h
def cE.le(C C':cE):Prop:=∀f xs o,C f xs=some o->C' f xs=some o
def Rm(hl:C.le C'){g:G}{s s':ah}(h:eG C ok g s=some s'):eG C' ok g s=some s':=by
 rcases Rk h with h|⟨f,xs,r,h1,h2⟩;·exact h _
 ·exact h2 _ (hl _ _ _ h1)
def KE(hl:C.le C'):∀{l:List G} {s s':ah},j7 C ok l s=some s'->j7 C' ok l s=some s'
 |[],_,_,h=>h
 |g::l,s,s',h=>by
  simp only[j7] at h⊢;cases h1:eG C ok g s with
  |none=>rw[h1] at h;cases h
  |some s1=>rw[h1] at h;rw[Rm hl h1];exact KE hl h
def xb(hl:C.le C'):∀{t:DT} {s s':ah},eD C ok t s=some s'->eD C' ok t s=some s'
 |.nil _,_,_,h=>h
 |.step _ g l,s,s',h=>by
  simp only[eD] at h⊢;cases h1:eG C ok g s with
  |none=>rw[h1] at h;cases h
  |some s1=>rw[h1] at h;rw[Rm hl h1];exact xb hl h
 |.alt a b,s,s',h=>by
  simp only[eD] at h⊢;unfold same at h;split at h;·rename_i x y hx hy;rw[xb hl hx,xb hl hy];exact h
  ·cases h
 |.kp _ t,s,s',h=>xb (t:=t) hl h
def IK{k k':ah->cB}{r r':cB}{o:Ex×ah}(h:fB k r=some o)(hr:∀x,r=some x->r'=some x)(hk:∀s,k s=some o->k' s=some o):fB k' r'=some o:=by
 unfold fB at h;split at h;·rw[hr _ rfl];exact hk _ h
 ·rw[hr _ rfl];exact h
 ·rw[hr _ rfl];exact h
 ·cases h
def xQ{f f':ah->cB}(hf:∀s o,f s=some o->f' s=some o):∀{n m:Nat} {s:ah} {o:Ex×ah},n<=m->iter f n s=some o->iter f' m s=some o
 |0,_,_,_,_,h=>by cases h
 |n+1,0,_,_,hn,_=>by omega
 |n+1,m+1,s,o,hn,h=>IK h (hf s) λs' h'=>xQ hf (by omega) h'
end
noncomputable def aI(f:ah->cB)(s:ah):cB:=by classical exact if h:∃o:Ex×ah,∃n,iter f n s=some o then some (Classical.choose h) else none
def BZ{f:ah->cB}{s:ah}{o:Ex×ah}{n:Nat}(h:iter f n s=some o):aI f s=some o:=by have hh:∃o:Ex×ah,∃n,iter f n s=some o:=⟨o,n,h⟩;unfold aI;rw[lu hh];obtain⟨m,hm⟩:=DS hh;have h1:=xQ (λ_ _ h=>h) (Nat.le_max_left m n) hm;have h2:=xQ (λ_ _ h=>h) (Nat.le_max_right m n) h;rw[h1] at h2;exact h2
def Ml{f:ah->cB}{s:ah}{o:Ex×ah}(h:aI f s=some o):∃n,iter f n s=some o:=by
 unfold aI at h;split at h;·rename_i hh;cases h;exact DS hh
 ·cases h
def MH{α:Type}{a b:Option α}(h1:∀x,a=some x->b=some x)(h2:∀x,b=some x->a=some x):a=b:=by
 cases a with
 |none=>cases b with
  |none=>rfl
  |some y=>exact h2 y rfl
 |some x=>exact(h1 x rfl).symm
def cW(f:ah->cB)(s:ah):aI f s=fB (aI f) (f s):=by
 refine MH (λo h=>?_) λo h=>?_
 ·obtain⟨n,hn⟩:=Ml h;cases n with
  |zero=>cases hn
  |succ n=>exact IK hn (λ_ h=>h) λs' h'=>BZ h'
 ·unfold fB at h;split at h;·rename_i s' hs;obtain⟨n,hn⟩:=Ml h;refine BZ (n:=n+1) ?_;simp only[iter,hs,fB];exact hn
  ·rename_i hs;refine BZ (n:=1) ?_;simp only[iter,hs,fB];exact h
  ·rename_i hs;refine BZ (n:=1) ?_;simp only[iter,hs,fB];exact h
  ·cases h
noncomputable def ak(C:cE)(ok:FuncId->Bool):A->ah->cB
 |.skip,s=>some (.normal,s)
 |.ret,s=>some (.ret,s)
 |.exit id,s=>some (.exit id,s)
 |.ops l,s=>iW (j7 C ok l s)
 |.draw t,s=>iW (eD C ok t s)
 |.seq a b,s=>fB (ak C ok b) (ak C ok a s)
 |.cond c a b,s=>match aC s c with
  |.bool t=>if t=true then ak C ok a s else ak C ok b s
  |_=>none
 |.block id b,s=>lD id (ak C ok b s)
 |.loop b,s=>aI (ak C ok b) s
 |.pk ks b,s=>lX ks (ak C ok b s)
def GH{a b:Option ah}(h:∀s,a=some s->b=some s){o:Ex×ah}(ho:iW a=some o):iW b=some o:=by
 unfold iW at ho;split at ho;·rw[h _ rfl];exact ho
 ·cases ho
def P3{id:Nat}{a b:cB}(h:∀s,a=some s->b=some s){o:Ex×ah}(ho:lD id a=some o):lD id b=some o:=by
 cases a with
 |none=>cases ho
 |some x=>rw[h _ rfl];exact ho
def Uu{ks:List Nat}{a b:cB}(h:∀s,a=some s->b=some s){o:Ex×ah}(ho:lX ks a=some o):lX ks b=some o:=by
 cases a with
 |none=>cases ho
 |some x=>rw[h _ rfl];exact ho
def aaB{C C':cE}{ok:FuncId->Bool}(hl:C.le C'){N:Nat}:∀{t:A} {s:ah} {o:Ex×ah},eA C ok N t s=some o->ak C' ok t s=some o:=by
 intro t;induction t with
 |skip=>intro s o h;exact h
 |ret=>intro s o h;exact h
 |exit id=>intro s o h;exact h
 |ops l=>intro s o h;exact GH (λs' h'=>KE hl h') h
 |draw l=>intro s o h;exact GH (λs' h'=>xb hl h') h
 |seq a b iU ku=>intro s o h;exact IK h (λx hx=>iU hx) λs' h'=>ku h'
 |cond c a b iU ku=>
  intro s o h;simp only[eA] at h;simp only[ak];split at h
  ·rename_i t ht;try rw[ht]
   cases t with
   |true=>exact iU h
   |false=>exact ku h
  ·cases h
 |block id b ih=>intro s o h;exact P3 (λx hx=>ih hx) h
 |loop b ih=>intro s o h;exact BZ (xQ (λs o h=>ih h) (ek _) h)
 |pk ks b ih=>intro s o h;exact Uu (λx hx=>ih hx) h
def aaC{C C':cE}{ok:FuncId->Bool}(hl:C.le C'){N N':Nat}(hN:N<=N'):∀{t:A} {s:ah} {o:Ex×ah},eA C ok N t s=some o->eA C' ok N' t s=some o:=by
 intro t;induction t with
 |skip=>intro s o h;exact h
 |ret=>intro s o h;exact h
 |exit id=>intro s o h;exact h
 |ops l=>intro s o h;exact GH (λs' h'=>KE hl h') h
 |draw l=>intro s o h;exact GH (λs' h'=>xb hl h') h
 |seq a b iU ku=>intro s o h;exact IK h (λx hx=>iU hx) λs' h'=>ku h'
 |cond c a b iU ku=>
  intro s o h;simp only[eA] at h⊢;split at h
  ·rename_i t ht;cases t with
   |true=>exact iU h
   |false=>exact ku h
  ·cases h
 |block id b ih=>intro s o h;exact P3 (λx hx=>ih hx) h
 |loop b ih=>intro s o h;exact xQ (λs o h=>ih h) hN h
 |pk ks b ih=>intro s o h;exact Uu (λx hx=>ih hx) h
def E0{L:cE}{T:iN}:∀{n m:Nat},n<=m->(exec L T n).le (exec L T m)
 |0,_,_,_,_,_,h=>by cases h
 |n+1,0,hn,_,_,_,_=>by omega
 |n+1,m+1,hn,f,xs,o,h=>by
  have hnm:n<=m:=by omega
  simp only[exec] at h⊢;split at h
  ·rename_i F hF;unfold eF at h⊢;split at h
   ·rename_i hl;rw[ax hl];cases hr:eA (exec L T n) (aq T) n F.body (nv xs) with
    |none=>rw[hr] at h;cases h
    |some r=>rw[hr] at h;rw[aaC (E0 hnm) hnm hr];exact h
   ·cases h
  ·exact h
noncomputable def ev(L:cE)(T:iN):cE:=λf xs=>by classical exact if h:∃o:Out,∃n,exec L T n f xs=some o then some (Classical.choose h) else none
def KG{L:cE}{T:iN}{f:FuncId}{xs:List X}{o:Out}{n:Nat}(h:exec L T n f xs=some o):ev L T f xs=some o:=by have hh:∃o:Out,∃n,exec L T n f xs=some o:=⟨o,n,h⟩;unfold ev;rw[lu hh];obtain⟨m,hm⟩:=DS hh;have h1:=E0 (Nat.le_max_left m n) f xs _ hm;have h2:=E0 (Nat.le_max_right m n) f xs _ h;rw[h1] at h2;exact h2
def EY{L:cE}{T:iN}{f:FuncId}{xs:List X}{o:Out}(h:ev L T f xs=some o):∃n,exec L T n f xs=some o:=by
 unfold ev at h;split at h;·rename_i hh;cases h;exact DS hh
 ·cases h
def aaI(L:cE)(T:iN)(n:Nat):(exec L T n).le (ev L T):=λ_ _ _ h=>KG h
def aot[Bs]{P:Program}{L:cE}{T:iN}(hL:L.Sound P)(hT:T.Ok P):(ev L T).Sound P:=λf xs o h=>by obtain⟨n,hn⟩:=EY h;exact RA hL hT n f xs o hn
section
variable {L:cE}{T:iN}
def Rl{g:G}{s s':ah}(h:eG (ev L T) (aq T) g s=some s'):∃n,∀m,n<=m->eG (exec L T m) (aq T) g s=some s':=by
 rcases Rk h with h|⟨f,xs,r,h1,h2⟩;·exact⟨0,λm _=>h _⟩
 ·obtain⟨n,hn⟩:=EY h1;exact⟨n,λm hm=>h2 _ (E0 hm f xs r hn)⟩
def Rs:∀{l:List G} {s s':ah},j7 (ev L T) (aq T) l s=some s'->∃n,∀m,n<=m->j7 (exec L T m) (aq T) l s=some s'
 |[],s,s',h=>⟨0,λm _=>h⟩
 |g::l,s,s',h=>by
  simp only[j7] at h⊢;cases h1:eG (ev L T) (aq T) g s with
  |none=>rw[h1] at h;cases h
  |some s1=>rw[h1] at h;obtain⟨n1,js⟩:=Rl h1;obtain⟨n2,hn2⟩:=Rs (l:=l) h;exact⟨max n1 n2,λm hm=>by rw[js m (by omega)];exact hn2 m (by omega)⟩
def Av:∀{l:DT} {s s':ah},eD (ev L T) (aq T) l s=some s'->∃n,∀m,n<=m->eD (exec L T m) (aq T) l s=some s'
 |.nil _,s,s',h=>⟨0,λm _=>h⟩
 |.step _ g l,s,s',h=>by
  simp only[eD] at h⊢;cases h1:eG (ev L T) (aq T) g s with
  |none=>rw[h1] at h;cases h
  |some s1=>rw[h1] at h;obtain⟨n1,js⟩:=Rl h1;obtain⟨n2,hn2⟩:=Av (l:=l) h;exact⟨max n1 n2,λm hm=>by rw[js m (by omega)];exact hn2 m (by omega)⟩
 |.alt a b,s,s',h=>by
  simp only[eD] at h⊢;unfold same at h;split at h;·rename_i x y hx hy;obtain⟨n1,js⟩:=Av hx;obtain⟨n2,hn2⟩:=Av hy;exact⟨max n1 n2,λm hm=>by rw[js m (by omega),hn2 m (by omega)];exact h⟩
  ·cases h
 |.kp _ t,s,s',h=>Av (l:=t) h
def T4{a:Option ah}{b:Nat->Option ah}(h:∀s,a=some s->∃n,∀m,n<=m->b m=some s){o:Ex×ah}(ho:iW a=some o):∃n,∀m,n<=m->iW (b m)=some o:=by
 cases a with
 |none=>cases ho
 |some s=>obtain⟨n,hn⟩:=h s rfl;exact⟨n,λm hm=>by rw[hn m hm];exact ho⟩
def aaG:∀{t:A} {s:ah} {o:Ex×ah},ak (ev L T) (aq T) t s=some o->∃n,∀m,n<=m->eA (exec L T m) (aq T) m t s=some o:=by
 intro t;induction t with
 |skip=>intro s o h;exact⟨0,λm _=>h⟩
 |ret=>intro s o h;exact⟨0,λm _=>h⟩
 |exit id=>intro s o h;exact⟨0,λm _=>h⟩
 |ops l=>intro s o h;exact T4 (λs h=>Rs h) h
 |draw l=>intro s o h;exact T4 (λs h=>Av h) h
 |seq a b iU ku=>
  intro s o h;simp only[ak] at h;simp only[eA];cases hr:ak (ev L T) (aq T) a s with
  |none=>rw[hr] at h;cases h
  |some r=>
   rw[hr] at h;obtain⟨n1,js⟩:=iU hr;obtain⟨e,s1⟩:=r;cases e with
   |normal=>obtain⟨n2,hn2⟩:=ku (s:=s1) h;exact⟨max n1 n2,λm hm=>by rw[js m (by omega)];exact hn2 m (by omega)⟩
   |exit i=>exact⟨n1,λm hm=>by rw[js m hm];exact h⟩
   |ret=>exact⟨n1,λm hm=>by rw[js m hm];exact h⟩
 |cond c a b iU ku=>
  intro s o h;simp only[ak] at h;simp only[eA];split at h
  ·rename_i t ht;try rw[ht]
   cases t with
   |true=>exact iU h
   |false=>exact ku h
  ·cases h
 |block id b ih=>
  intro s o h;simp only[ak] at h;simp only[eA];cases hr:ak (ev L T) (aq T) b s with
  |none=>rw[hr] at h;cases h
  |some r=>rw[hr] at h;obtain⟨n1,js⟩:=ih hr;exact⟨n1,λm hm=>by rw[js m hm];exact h⟩
 |pk ks b ih=>
  intro s o h;simp only[ak] at h;simp only[eA];cases hr:ak (ev L T) (aq T) b s with
  |none=>rw[hr] at h;cases h
  |some r=>rw[hr] at h;obtain⟨n1,js⟩:=ih hr;exact⟨n1,λm hm=>by rw[js m hm];exact h⟩
 |loop b ih=>
  intro s o h;simp only[ak] at h;obtain⟨n,hn⟩:=Ml h
  have go:∀(n:Nat) (s:ah),iter (ak (ev L T) (aq T) b) n s=some o->∃k,∀m,k<=m->iter (eA (exec L T m) (aq T) m b) n s=some o:=by
   intro n;induction n with
   |zero=>intro s h;cases h
   |succ n ihn=>
    intro s h;simp only[iter] at h⊢;cases hr:ak (ev L T) (aq T) b s with
    |none=>rw[hr] at h;cases h
    |some r=>
     rw[hr] at h;obtain⟨n1,js⟩:=ih hr;obtain⟨e,s1⟩:=r;cases e with
     |normal=>obtain⟨n2,hn2⟩:=ihn s1 h;exact⟨max n1 n2,λm hm=>by rw[js m (by omega)];exact hn2 m (by omega)⟩
     |exit i=>exact⟨n1,λm hm=>by rw[js m hm];exact h⟩
     |ret=>exact⟨n1,λm hm=>by rw[js m hm];exact h⟩
  obtain⟨k,hk⟩:=go n s hn;refine⟨max k n,λm hm=>?_⟩;simp only[eA];exact xQ (λ_ _ h=>h) (by omega) (hk m (by omega))
noncomputable def EX(L:cE)(T:iN)(F:Fn)(xs:List X):Option Out:=
 if xs.length=F.n then fin F (ak (ev L T) (aq T) F.body (nv xs)) else none
def aaH{f:FuncId}{F:Fn}(hF:T f=some F)(xs:List X):ev L T f xs=EX L T F xs:=by
 refine MH (λo h=>?_) λo h=>?_
 ·obtain⟨n,hn⟩:=EY h;cases n with
  |zero=>cases hn
  |succ n=>
   simp only[exec,hF] at hn;unfold eF at hn;unfold EX;split at hn
   ·rename_i hl;rw[ax hl];cases hr:eA (exec L T n) (aq T) n F.body (nv xs) with
    |none=>rw[hr] at hn;cases hn
    |some r=>rw[hr] at hn;rw[aaB (aaI L T n) hr];exact hn
   ·cases hn
 ·unfold EX at h;split at h
  ·rename_i hl;cases hr:ak (ev L T) (aq T) F.body (nv xs) with
   |none=>rw[hr] at h;cases h
   |some r=>rw[hr] at h;obtain⟨n,hn⟩:=aaG hr;refine KG (n:=n+1) ?_;simp only[exec,hF,eF,ax hl,hn n (ek n)];exact h
  ·cases h
def lF{f:FuncId}(hF:T f=none)(xs:List X):ev L T f xs=L f xs:=by
 refine MH (λo h=>?_) λo h=>?_
 ·obtain⟨n,hn⟩:=EY h;cases n with
  |zero=>cases hn
  |succ n=>simpa only[exec,hF] using hn
 ·refine KG (n:=1) ?_;simpa only[exec,hF] using h
end
end M
namespace M
open Go
section
variable {C:cE}{ok:FuncId->Bool}{T:iN}
@[simp] def aos(s:ah):ak C ok .skip s=some (.normal,s):=rfl
@[simp] def aoq(s:ah):ak C ok .ret s=some (.ret,s):=rfl
@[simp] def aom(i:Nat)(s:ah):ak C ok (.exit i) s=some (.exit i,s):=rfl
@[simp] def aoo(l:List G)(s:ah):ak C ok (.ops l) s=iW (j7 C ok l s):=rfl
@[simp] def aol(t:DT)(s:ah):ak C ok (.draw t) s=iW (eD C ok t s):=rfl
@[simp] def aor(a b:A)(s:ah):ak C ok (.seq a b) s=fB (ak C ok b) (ak C ok a s):=rfl
@[simp] def aoj(i:Nat)(b:A)(s:ah):ak C ok (.block i b) s=lD i (ak C ok b s):=rfl
@[simp] def aon(b:A)(s:ah):ak C ok (.loop b) s=aI (ak C ok b) s:=rfl
@[simp] def aop(ks:List Nat)(b:A)(s:ah):ak C ok (.pk ks b) s=lX ks (ak C ok b s):=rfl
noncomputable def Q8(C:cE)(ok:FuncId->Bool)(a b:A)(s:ah):X->cB
 |.bool t=>if t=true then ak C ok a s else ak C ok b s
 |_=>none
@[simp] def aok(c:AV)(a b:A)(s:ah):ak C ok (.cond c a b) s=Q8 C ok a b s (aC s c):=by simp only[ak];cases aC s c<;>rfl
@[simp] def anP(a b:A)(s:ah)(t:Bool):Q8 C ok a b s (.bool t)=if t=true then ak C ok a s else ak C ok b s:=rfl
@[simp] def aoh(s:ah):j7 C ok [] s=some s:=rfl
@[simp] def aog(g:G)(l:List G)(s:ah):j7 C ok (g::l) s=(eG C ok g s).bind (j7 C ok l):=rfl
@[simp] def aoc(ks:List Nat)(s:ah):eD C ok (.nil ks) s=some (keep ks s):=rfl
@[simp] def aod(i:Nat)(g:G)(t:DT)(s:ah):eD C ok (.step i g t) s=(eG C ok g s).bind (eD C ok t):=rfl
@[simp] def aoa(a b:DT)(s:ah):eD C ok (.alt a b) s=same (eD C ok a s) (eD C ok b s):=rfl
@[simp] def aob(ks:List Nat)(t:DT)(s:ah):eD C ok (.kp ks t) s=eD C ok t (keep ks s):=rfl
@[simp] def apU(s:ah):same (some s) (some s)=some s:=by
 have:rV s s=true:=by
  induction s with
  |nil=>rfl
  |cons a l ih=>obtain⟨k,x⟩:=a;simp[rV,X.Ry,ih]
 simp[same,this]
@[simp] def am5(c:Prop)[Decidable c](a b:Option ah)(f:ah->Option ah):(if c then a else b).bind f=if c then a.bind f else b.bind f:=by split<;>rfl
def Ff(C:cE)(ok:FuncId->Bool)(o:cA)(t:Nat)(b:Bool)(s:ah):X->Option ah
 |.bool v=>if v=b then cN C ok o ((t,.bool b)::s) else some (fS o.dst (.av []) ((t,.bool (!b))::s))
 |.av []=>some (fS o.dst (.av []) s)
 |_=>none
@[simp] def aoe(o:cA)(s:ah):eG C ok ⟨none,o⟩ s=cN C ok o s:=rfl
@[simp] def aof(t:Nat)(b:Bool)(o:cA)(s:ah):eG C ok ⟨some (t,b),o⟩ s=Ff C ok o t b s (get s t):=by simp only[eG];split<;>simp_all[Ff]
@[simp] def aoG(o:cA)(t:Nat)(b v:Bool)(s:ah):Ff C ok o t b s (.bool v)=if v=b then cN C ok o ((t,.bool b)::s) else some (fS o.dst (.av []) ((t,.bool (!b))::s)):=rfl
@[simp] def aoH(o:cA)(t:Nat)(b:Bool)(s:ah):Ff C ok o t b s (.av [])=some (fS o.dst (.av []) s):=rfl
@[simp] def apF(s:ah):iW (some s)=some (.normal,s):=rfl
@[simp] def apE:iW none=none:=rfl
@[simp] def apD(c:Prop)[Decidable c](a b:Option ah):iW (if c then a else b)=if c then iW a else iW b:=by split<;>rfl
@[simp] def ai1(k:ah->cB)(s:ah):fB k (some (.normal,s))=k s:=rfl
@[simp] def apW(k:ah->cB)(i:Nat)(s:ah):fB k (some (.exit i,s))=some (.exit i,s):=rfl
@[simp] def apZ(k:ah->cB)(s:ah):fB k (some (.ret,s))=some (.ret,s):=rfl
@[simp] def apY(k:ah->cB):fB k none=none:=rfl
@[simp] def apX(k:ah->cB)(c:Prop)[Decidable c](a b:cB):fB k (if c then a else b)=if c then fB k a else fB k b:=by split<;>rfl
@[simp] def am9(i:Nat)(s:ah):lD i (some (.normal,s))=some (.normal,s):=rfl
@[simp] def am6(i j:Nat)(s:ah):lD i (some (.exit j,s))=if j=i then some (.normal,s) else some (.exit j,s):=rfl
@[simp] def ana(i:Nat)(s:ah):lD i (some (.ret,s))=some (.ret,s):=rfl
@[simp] def am8(i:Nat):lD i none=none:=rfl
@[simp] def am7(i:Nat)(c:Prop)[Decidable c](a b:cB):lD i (if c then a else b)=if c then lD i a else lD i b:=by split<;>rfl
@[simp] def apO(ks:List Nat)(s:ah):lX ks (some (.normal,s))=some (.normal,keep ks s):=rfl
@[simp] def apL(ks:List Nat)(i:Nat)(s:ah):lX ks (some (.exit i,s))=some (.exit i,s):=rfl
@[simp] def apP(ks:List Nat)(s:ah):lX ks (some (.ret,s))=some (.ret,s):=rfl
@[simp] def apN(ks:List Nat):lX ks none=none:=rfl
@[simp] def apM(ks:List Nat)(c:Prop)[Decidable c](a b:cB):lX ks (if c then a else b)=if c then lX ks a else lX ks b:=by split<;>rfl
def uA(rs:List RV)(n:Nat):cB->Option Out
 |some (.exit _,_)=>none
 |some (_,s)=>if X.clean.cH (dU rs s).1=true/\(dU rs s).1.any X.mO=false then some (vn (dU rs s).1,qH 0 n (dU rs s).2) else none
 |none=>none
def KK(rs:List RV)(n:Nat)(s:ah):Option Out:=if X.clean.cH (dU rs s).1=true/\(dU rs s).1.any X.mO=false then some (vn (dU rs s).1,qH 0 n (dU rs s).2) else none
def au{L:cE}{T:iN}{f:FuncId}{b:A}{rs:List RV}{n:Nat}(h:T f=some ⟨b,rs,n⟩){xs:List X}(hl:xs.length=n):ev L T f xs=uA rs n (ak (ev L T) (aq T) b (nv xs)):=by rw[aaH h];unfold EX;rw[ax hl];rfl
@[simp] def aoF(rs:List RV)(n:Nat)(s:ah):uA rs n (some (.ret,s))=KK rs n s:=rfl
@[simp] def aoE(rs:List RV)(n:Nat)(s:ah):uA rs n (some (.normal,s))=KK rs n s:=rfl
@[simp] def aoD(rs:List RV)(n:Nat):uA rs n none=none:=rfl
@[simp] def aoC(rs:List RV)(n:Nat)(c:Prop)[Decidable c](a b:cB):uA rs n (if c then a else b)=if c then uA rs n a else uA rs n b:=by split<;>rfl
@[simp] def apS(d:Option Nat)(s:ah)(r:X)(ps:List X):qI d s (some (r,ps))=some (fS d r s):=rfl
@[simp] def apR(d:Option Nat)(s:ah):qI d s none=none:=rfl
@[simp] def apQ(d:Option Nat)(s:ah)(c:Prop)[Decidable c](a b:Option Out):qI d s (if c then a else b)=if c then qI d s a else qI d s b:=by split<;>rfl
end
attribute [simp] KK cN nv Dp Dq dU qH post vn X.mO X.clean X.clean.cH X.clean.bE keep IV Em rM wV
end M
namespace M
open Go
def uv(z bytes:Nat):A:=(.seq (.pk [0] (.ops [⟨none,.aN 2 .aM (.k (.row .own z []))⟩])) (.seq (.seq (.pk [0,4] (.ops [⟨none,.mv 3 (.t 0)⟩,⟨none,.sV 4 false (.t 3)⟩])) (.pk [0] (.cond (.t 4) (.seq (.pk [2,7] (.ops [⟨none,.aN 2 .aM (.k (.row .own z []))⟩])) .ret) .skip))) (.seq (.pk [2,7] (.ops [⟨none,.lit 5 .mv z []⟩,⟨none,.mv 6 (.t 0)⟩,⟨none,.app 7 .al z bytes (.t 5) (.t 6)⟩,⟨none,.aN 2 .aM (.t 7)⟩])) .ret)))
def Q3:∀{rows:List (List X)},eC rows=true->X.clean.bE rows=true
 |[],_=>rfl
 |e::l,h=>by
  simp only[eC,aB,pR] at h
  have h1:X.clean.cH e=true:=by
   have h2:=h.1;clear h;induction e with
   |nil=>rfl
   |cons x e ih=>have hx:=h2 x (bD ..);have he:=ih λy hy=>h2 y (bY _ hy);cases x<;>simp_all[scalar,X.clean.cH,X.clean]
  simp only[X.clean.bE,h1,Q3 h.2,Bool.and_self]
def aap[Bs]{P:Program}{f:FuncId}{z bytes:Nat}(hT:Told P f (uv z bytes) [.t 2] 1){rows:List (List X)}(h1:rows.length*bytes<=140737488355328)(h2:eC rows=true)(h4:iZ rows=true\/rows=[]):
  AC P f [.row .af z rows] λr ps=>r=.row .own z rows/\ps=[.dead]:=by
 refine hT.ac rfl ?_;have h3:=N1 h2;have h5:=Q3 h2;simp[uv,eN,kM,pX,aT,base,Ends,h1,h3,h5];intro h6;rcases h4 with h4|h4;·rw[h4] at h6;cases h6
 ·subst h4;simp
def iB(f0 z bytes:Nat):cE:=λf xs=>if f=f0 then (match xs with
 |[.row .af z' rows]=>if z'=z/\rows.length*bytes<=140737488355328/\eC rows=true/\(iZ rows=true\/rows=[]) then some (.row .own z rows,[.dead]) else none
 |_=>none) else none
def EG[Bs]{P:Program}{f0 z bytes:Nat}(hT:Told P f0 (uv z bytes) [.t 2] 1):(iB f0 z bytes).Sound P:=λf xs o h=>by
 unfold iB at h;split at h
 ·rename_i hf;subst hf;split at h
  ·split at h;·rename_i hc;obtain⟨rfl,c1,c2,c3⟩:=hc;cases h;exact aap hT c1 c2 c3
   ·cases h
  ·cases h
 ·cases h
def ff(L L':cE):cE:=λf xs=>match L f xs with
 |some o=>some o
 |none=>L' f xs
def nW[Bs]{P:Program}{L L':cE}(h:L.Sound P)(h':L'.Sound P):(ff L L').Sound P:=λf xs o e=>by
 unfold ff at e;split at e;·rename_i o' e';cases e;exact h f xs _ e'
 ·exact h' f xs _ e
end M
namespace M
open Go
def sv:X->Value
 |.int k n=>.int k n
 |.bool b=>.bool b
 |.str s=>.string s
 |_=>undef
def aiS{c:C}(h:scalar c.er=true):c.val=sv c.er:=by cases c<;>first|rfl|(simp[C.er,scalar] at h)
def Dt:X->Bool
 |.str s=>decide (s.size<=9223372036854775807)
 |x=>scalar x
def iX(f0:FuncId)(g:List X->Option X):cE:=λf xs=>if f=f0 then (match g xs with
 |some r=>if xs.all scalar=true/\Dt r=true then some (r,xs.map λ_=>.dead) else none
 |none=>none) else none
end M
namespace M
open Go Go.Sort
def ox[B:Bs](w:World):Prop:=∀b,b<B.W0.heap.size->w.heap[b]?=B.W0.heap[b]?
def Yt[Bs]{P:Program}{f:FuncId}{xs:List X}{r:X}(hx:∀x∈xs,scalar x=true)(hr:Dt r=true)
  (h:∀w,ox w->Calls P f (xs.map sv).toArray w λe w'=>e=.returned (sv r)/\∃k os,w'=grow (w.drewN k) os):AC P f xs λr' ps=>r'=r/\ps=xs.map λ_=>.dead:=by
 intro w zl zb cs e hA mJ;have hv:cs.map C.val=xs.map sv:=by rw[<-e,cP];exact cm λc hc=>aiS (hx _ (e▸kH hc))
 rw[hv];refine(h w λb hb=>(mJ b hb).1).mono λe' w' ⟨he,k,os,hw⟩=>?_;subst hw;have hsz:w.heap.size<=(grow (w.drewN k) os).heap.size:=by simp[grow,World.drewN]
 have hs:∃c:C,c.er=r/\c.val=sv r/\c.ok (grow (w.drewN k) os) (Zf zl λ_ _=>False)/\c.bare/\∀b k,¬c.fp b k:=by
  cases r with
  |int k n=>exact⟨.int k n,rfl,rfl,trivial,trivial,λ_ _ h=>h⟩
  |bool b=>exact⟨.bool b,rfl,rfl,trivial,trivial,λ_ _ h=>h⟩
  |str s=>exact⟨.str s,rfl,rfl,by simp[Dt] at hr;exact hr,trivial,λ_ _ h=>h⟩
  |_=>simp[Dt,scalar] at hr
 obtain⟨c,c1,c2,c3,c4,c5⟩:=hs;have Ld:Ext (λb k=>∃x∈cs,x.fp b k) w (grow (w.drewN k) os):=⟨rfl,rfl,rfl,hsz,λb hb=>.inl (by show (w.heap++os)[b]?=w.heap[b]?;exact O6 hb)⟩
 refine⟨c,cs.map λx=>.dead x.val,zl,⟨by rw[he,c2],by rw[cP];rfl,Ld,⟨λx hx'=>?_,λx hx'=>?_,λx hx' b k hf=>?_,λb k hz=>lg (hA.cJ b k (hz.imp id λh=>h.elim)) hsz,?_⟩,λx hx' b k hf=>?_,λ_ _ h=>h,λ_ _ h=>.inl h⟩,c1,?_⟩
 ·rcases b9.1 hx' with rfl|hx';·exact c3
  ·obtain⟨y,_,rfl⟩:=bw.1 hx';trivial
 ·rcases b9.1 hx' with rfl|hx';·exact c4
  ·obtain⟨y,_,rfl⟩:=bw.1 hx';trivial
 ·rcases b9.1 hx' with rfl|hx';·exact(c5 b k hf).elim
  ·obtain⟨y,_,rfl⟩:=bw.1 hx';exact hf.elim
 ·refine fh.2 ⟨λx _ b k hf=>(c5 b k hf).elim,?_⟩;refine q7.2 λi j hi hj _ b k hf=>?_;obtain⟨y,_,hy⟩:=bw.1 (cq hi);rw[<-hy] at hf;exact hf.elim
 ·rcases b9.1 hx' with rfl|hx';·exact(c5 b k hf).elim
  ·obtain⟨y,_,rfl⟩:=bw.1 hx';exact hf.elim
 ·rw[<-e];simp[cP,Jo,C.er]
def ad6[Bs]{P:Program}{f0:FuncId}{g:List X->Option X}(h:∀xs r,g xs=some r->∀w,ox w->Calls P f0 (xs.map sv).toArray w λe w'=>e=.returned (sv r)/\∃k os,w'=grow (w.drewN k) os):(iX f0 g).Sound P:=λf xs o e=>by
 unfold iX at e;split at e
 ·rename_i hf;subst hf;split at e
  ·rename_i r hr;split at e;·rename_i hc;cases e;exact Yt (pR.1 hc.1) hc.2 (h xs r hr)
   ·cases e
  ·cases e
 ·cases e
def TabIs.same[B:Bs]{P:Program}{w:World}{n:String}{k:IntKind}{zs:List Int}(h:Lib.TabIs P B.W0 n k zs)(hw:ox w):Lib.TabIs P w n k zs:=by
 unfold Lib.TabIs World.var? at h⊢;cases hg:P.globalNamed n with
 |none=>rw[hg] at h;cases h
 |some g=>
  rw[hg] at h;simp only[gx] at h⊢
  have hlt:g<B.W0.heap.size:=by
   rcases fV g B.W0.heap.size with h'|h';·exact h'
   ·rw[lB h'] at h;cases h
  rw[hw g hlt];exact h
def aiV{P:Program}{W:World}{name:String}{k:IntKind}{zs:List Int}{g:Nat}{t e:TypeId}{n:Nat}
  (hg:P.globalNamed name=some g)(hty:(P.globals[g]?).map (·.type)=some t)(ht:P.underlying t=some (.array n e))(he:P.underlying e=some (.int k))(hce:P.cellsOf e=1)(hct:P.cellsOf t=n):
  ∀{l:List (String×DataW Unit)} {ps:List MemPlace},DataW.LaidVars P W l ps->(name,Lib.tabData k zs)∈l->Lib.TabIs P W name k zs
 |[],_,_,h=>by cases h
 |(nm,d)::l,ps,h,hm=>by
  obtain⟨g',t',cs,fuel,p,q,hg',ht',hvar,hd,hr,_⟩:=h;rcases b9.1 hm with hm|hm;·obtain⟨rfl,rfl⟩:=DQ hm;obtain rfl:=iL (hg.symm.trans hg');obtain rfl:=iL (hty.symm.trans ht');unfold Lib.TabIs;rw[hvar,<-Lib.cells_of_tab ht he hce hct hd]
  ·exact aiV hg hty ht he hce hct hr hm
end M
namespace M
open Go
def lv:Ex×ah->cB
 |(.normal,_)=>none
 |(.ret,s)=>some (.ret,s)
 |(.exit i,s)=>some (.exit i,s)
def o8{β γ:Type}(go:β->γ->γ ⊕ (Ex×ah)):List β->γ->γ ⊕ (Ex×ah)
 |[],g=>.inl g
 |b::l,g=>match go b g with
  |.inl g'=>o8 go l g'
  |.inr o=>.inr o
def Mn{xt:Nat}{β γ:Type}{f:ah->cB}(l:List β)(st:Nat->γ->ah)(go:β->γ->γ ⊕ (Ex×ah))(E:γ->ah)(Inv:Nat->γ->Prop)(g:γ)(h0:Inv 0 g)
  (h:∀i b g,l[i]?=some b->i<l.length->Inv i g->f (st i g)=(match go b g with|.inl g'=>some (.normal,st (i+1) g')|.inr o=>lv o))
  (hI:∀i b g g',l[i]?=some b->Inv i g->go b g=.inl g'->Inv (i+1) g')
  (hend:∀g,Inv l.length g->f (st l.length g)=some (.exit xt,E g)):
  aI f (st 0 g)=match o8 go l g with|.inl g'=>some (.exit xt,E g')|.inr o=>lv o:=by
 suffices H:∀(r:List β) (i:Nat) (g:γ),Inv i g->l.drop i=r->i<=l.length->aI f (st i g)=match o8 go r g with|.inl g'=>some (.exit xt,E g')|.inr o=>lv o from H l 0 g h0 rfl (oq _)
 intro r;induction r with
 |nil=>
  intro i g hi hr hl;have:i=l.length:=by have:=dz List.length hr;simp at this;omega
  subst this;rw[cW,hend g hi];rfl
 |cons b r ih=>
  intro i g hi hr hl
  have hlt:i<l.length:=by
   rcases fV i l.length with h|h;·exact h
   ·rw[O7 h] at hr;cases hr
  have hb:l[i]?=some b:=by have:=nr hlt;rw[hr] at this;rw[cz hlt];cases this;rfl
  have hr':l.drop (i+1)=r:=by have:=nr hlt;rw[hr] at this;cases this;rfl
  rw[cW,h i b g hb hlt hi];unfold o8;cases hg:go b g with
  |inl g'=>exact ih (i+1) g' (hI i b g g' hb hi hg) hr' hlt
  |inr o=>obtain⟨e,s⟩:=o;cases e<;>simp[fB,lv]
def bq{α:Type}(p:α->Bool)(l:List α):Bool:=l.all p
def dY{α:Type}{p:α->Bool}{l:List α}:bq p l=true↔∀x∈l,p x=true:=pR
def gJ{xt:Nat}{β:Type}{f:ah->cB}(l:List β)(st:Nat->ah)(p:β->Bool)(R E:ah)
  (h:∀i b,l[i]?=some b->i<l.length->f (st i)=if p b=true then some (.normal,st (i+1)) else some (.ret,R))
  (hend:f (st l.length)=some (.exit xt,E)):
  aI f (st 0)=if bq p l=true then some (.exit xt,E) else some (.ret,R):=by
 show _=if l.all p=true then _ else _
 have H:=Mn (f:=f) l (λi (_:Unit)=>st i) (λb _=>if p b=true then .inl () else .inr (.ret,R)) (λ_=>E) (λ_ _=>True) () trivial
  (λi b g hb hl _=>by rw[h i b hb hl];by_cases hp:p b=true<;>simp[hp,lv]) (λ_ _ _ _ _ _ _=>trivial) λ_ _=>hend
 refine H.trans ?_
 have:∀r:List β,o8 (λb (_:Unit)=>if p b=true then .inl () else .inr (Ex.ret,R)) r ()=if r.all p=true then .inl () else .inr (.ret,R):=by
  intro r;induction r with
  |nil=>rfl
  |cons b r ih=>
   simp only[o8];by_cases hp:p b=true;·simp[hp,ih]
   ·simp[hp]
 rw[this];by_cases hp:l.all p=true<;>simp[hp,lv]
def Mm{xt:Nat}{β γ:Type}{f:ah->cB}(l:List β)(st:Nat->γ->ah)(go:γ->β->γ)(E:γ->ah)(Inv:Nat->γ->Prop)(g:γ)(h0:Inv 0 g)
  (h:∀i b g,l[i]?=some b->i<l.length->Inv i g->f (st i g)=some (.normal,st (i+1) (go g b)))
  (hI:∀i b g,l[i]?=some b->Inv i g->Inv (i+1) (go g b))
  (hend:∀g,Inv l.length g->f (st l.length g)=some (.exit xt,E g)):
  aI f (st 0 g)=some (.exit xt,E (l.foldl go g)):=by
 refine(Mn (f:=f) l st (λb g=>.inl (go g b)) E Inv g h0 h (λi b g g' hb hi e=>by cases e;exact hI i b g hb hi) hend).trans ?_
 have:∀(r:List β) (g:γ),o8 (λb g=>.inl (go g b)) r g=(.inl (r.foldl go g):γ ⊕ (Ex×ah)):=by
  intro r;induction r with
  |nil=>intro g;rfl
  |cons b r ih=>intro g;simp only[o8,ou];exact ih _
 rw[this]
def TN{xt:Nat}{β:Type}{f:ah->cB}(l:List β)(st:Nat->ah)(E:ah)
  (h:∀i b,l[i]?=some b->i<l.length->f (st i)=some (.normal,st (i+1)))
  (hend:f (st l.length)=some (.exit xt,E)):aI f (st 0)=some (.exit xt,E):=
 Mm l (λi (_:Unit)=>st i) (λ_ _=>()) (λ_=>E) (λ_ _=>True) () trivial (λi b _ hb hl _=>h i b hb hl) (λ_ _ _ _ _=>trivial) λ_ _=>hend
def bO{n:Int}(h1:-9223372036854775808<=n)(h2:n<=9223372036854775807):IntKind.i64.wrap n=n:=by simp only[IntKind.wrap,IntKind.signed,IntKind.bits,O4,bp];split<;>rename_i h<;>simp at h<;>omega
def aU(n:Nat)(h:n<9223372036854775807):IntKind.i64.wrap (↑n+1)=↑n+1:=bO (by omega) (by omega)
attribute [simp] base IC iq look cu ck ct EA GG Cn k7 iI
abbrev ag:=List UInt8
@[simp] def apV(s:ag):ByteArray.size ⟨s.toArray⟩=s.length:=by simp[ByteArray.size]
@[simp] def str_inj(s t:ag):((⟨s.toArray⟩:ByteArray)=⟨t.toArray⟩)↔s=t:=by
 constructor
 ·intro h;injection h with h
  simpa using dz Array.toList h
 ·rintro rfl;rfl
def eX(s t:ag):(⟨s.toArray⟩:ByteArray)++⟨t.toArray⟩=⟨(s++t).toArray⟩:=by apply ByteArray.ext;rw[ByteArray.data_append];simp
@[simp] def eS(s:ag):List X:=[.str ⟨s.toArray⟩]
structure Wr where
 at_:Int
 text:ag
 deriving DecidableEq
structure aV where
 cells:List ag
 pending:List Wr
 deriving DecidableEq
@[simp] def eW(w:Wr):List X:=[.int .i64 w.at_,.str ⟨w.text.toArray⟩]
@[simp] def bW(m:Md)(d:aV):List X:=[.row m 1 (d.cells.map eS),.row m 2 (d.pending.map eW)]
@[simp] def apx(m:Md)(l:List ag):X.bT m (l.map eS)=l.map eS:=by induction l<;>simp_all[X.bT,X.dJ,X.md]
@[simp] def apB(m:Md)(l:List Wr):X.bT m (l.map eW)=l.map eW:=by induction l<;>simp_all[X.bT,X.dJ,X.md]
@[simp] def aam(l:List ag):X.clean.bE (l.map eS)=true:=by induction l<;>simp_all[X.clean.bE,X.clean.cH,X.clean]
@[simp] def aan(l:List Wr):X.clean.bE (l.map eW)=true:=by induction l<;>simp_all[X.clean.bE,X.clean.cH,X.clean]
def agn{α β:Type}(l:List α)(e:α->β)(z:β)(g:β->β){i:Nat}(hi:i<l.length)(hg:g z=e l[i]):
  ((l.take i).map e++List.replicate (l.length - i) z).modify i g=(l.take (i+1)).map e++List.replicate (l.length - (i+1)) z:=by
 apply gy;intro j;rw[tR];rcases Nat.lt_trichotomy j i with h|h|h;·rw[kK (by simp;omega),kK (by simp;omega)];simp only[cZ,Pg,ax h,ax (Nat.lt_succ_of_lt h),aF (Nat.ne_of_gt h)];cases l[j]?<;>rfl
 ·subst h;rw[iM (by simp;omega),kK (by simp;omega)];have:j - ((l.take j).map e).length=0:=by simp;omega
  rw[this,WO (by omega)];simp only[cZ,Pg,ax (Nat.lt_succ_self j),cz hi,dh,cv,<-hg];rfl
 ·rw[iM (by simp;omega),iM (by simp;omega)];have h1:j - ((l.take i).map e).length=j - i:=by simp;omega
  have h2:j - ((l.take (i+1)).map e).length=j - (i+1):=by simp;omega
  rw[h1,h2,Pe,Pe];by_cases h3:j<l.length;·rw[ax (by omega),ax (by omega)];simp only[Nat.ne_of_lt h,dQ];rfl
  ·rw[aF (by omega),aF (by omega)];rfl
def lG(rows:List (List X))(i:Nat)(z:List X):List (List X):=rows.take i++List.replicate (rows.length - i) z
@[simp] def aoz(rows:List (List X))(i:Nat)(z:List X):(lG rows i z).length=rows.length:=by simp[lG];omega
@[simp] def aaN(rows:List (List X))(i:Nat)(z:List X)(h:i<rows.length):(lG rows i z)[i]?=some z:=by unfold lG;rw[iM (by simp;omega),WO (by simp;omega)]
@[simp] def aoy(rows:List (List X))(i:Nat)(z:List X)(h:i<(lG rows i z).length):(lG rows i z)[i]=z:=by
 have h':i<rows.length:=by simpa using h
 have:=aaN rows i z h';rw[cz h] at this;exact iL this
@[simp] def aoB(rows:List (List X))(z:List X):lG rows 0 z=List.replicate rows.length z:=by simp[lG]
@[simp] def aox(rows:List (List X))(i:Nat)(z:List X)(h:i=rows.length):lG rows i z=rows:=by subst h;simp[lG]
@[simp] def aoA(rows:List (List X))(i:Nat)(z:List X)(g:List X->List X)(h:i<rows.length)(hg:g z=rows[i]):(lG rows i z).modify i g=lG rows (i+1) z:=by have:=agn rows id z g h (by simpa using hg);simpa [lG] using this
def WS{α β:Type}:∀{a:List α} {b:List β},a.length=b.length->∃ps:List (α×β),a=ps.map Prod.fst/\b=ps.map Prod.snd
 |[],[],_=>⟨[],rfl,rfl⟩
 |x::a,y::b,h=>by obtain⟨ps,h1,h2⟩:=WS (a:=a) (b:=b) (by simpa using h);exact⟨(x,y)::ps,by simp[<-h1],by simp[<-h2]⟩
 |[],_::_,h=>by cases h
 |_::_,[],h=>by cases h
def xd{α:Type}[DecidableEq α](x:α×α):Bool:=decide (x.1=x.2)
def PK{α:Type}[DecidableEq α]:∀ps:List (α×α),bq xd ps=decide (ps.map Prod.fst=ps.map Prod.snd)
 |[]=>rfl
 |x::ps=>by have:=PK ps;unfold bq at this⊢;simp only[List.all_cons,this,xd,bn,wE];exact(Bool.decide_and ..).symm
def afX{xt:Nat}{β:Type}{f:ah->cB}(l:List β)(st:Int->ah)(p:β->Bool)(R:β->ah)(E:ah)
  (h:∀(i:Nat) b,l[i]?=some b->i<l.length->f (st i)=if p b=true then some (.ret,R b) else some (.normal,st (i - 1)))
  (hend:f (st (-1))=some (.exit xt,E)):
  aI f (st (l.length - 1))=(l.reverse.find? p).elim (some (.exit xt,E)) (λb=>some (.ret,R b)):=by
 suffices H:∀k,k<=l.length->aI f (st ((k:Int) - 1))=((l.take k).reverse.find? p).elim (some (.exit xt,E)) (λb=>some (.ret,R b)) by have:=H l.length (ek _);rwa [wA] at this
 intro k;induction k with
 |zero=>intro _;rw[cW];simp[hend]
 |succ k ih=>
  intro hk;have hb:l[k]?=some l[k]:=cz hk;have e:((k+1:Nat):Int) - 1=(k:Int):=by omega
  rw[e,cW,h k _ hb hk,List.take_add_one,hb];simp only[Option.toList_some,OQ,List.reverse_cons,List.reverse_nil,kI,WC,List.find?_cons];by_cases hp:p l[k]=true;·simp[hp]
  ·simp only[hp,fD,dQ,ai1];exact ih (by omega)
def cr(d:aV)(a:Int):ag:=d.pending.foldl (λout w=>if w.at_=a then w.text else out) (d.cells.getD a.toNat [])
def KR(a:Int):∀(l:List Wr) (x:ag),l.foldl (λout w=>if w.at_=a then w.text else out) x=(l.reverse.find? (λw=>decide (w.at_=a))).elim x Wr.text
 |[],x=>rfl
 |w::l,x=>by
  rw[ou,KR a l,List.reverse_cons,List.find?_append];cases l.reverse.find? (λw=>decide (w.at_=a)) with
  |some v=>rfl
  |none=>by_cases h:w.at_=a<;>simp[h]
def oD(new old:List (List X))(i:Nat):List (List X):=new.take i++old.drop i
@[simp] def RC(new old:List (List X))(i:Nat)(h:new.length=old.length):(oD new old i).length=old.length:=by simp[oD];omega
@[simp] def aaM(new old:List (List X))(i:Nat)(h:new.length=old.length)(hi:i<old.length):(oD new old i)[i]?=old[i]?:=by unfold oD;rw[iM (by simp;omega),pS];congr 1;simp;omega
@[simp] def aov(new old:List (List X))(i:Nat)(hl:i<(oD new old i).length)(h:new.length=old.length):(oD new old i)[i]=old[i]'(by rw[RC _ _ _ h] at hl;exact hl):=by
 have hi:i<old.length:=by rw[RC _ _ _ h] at hl;exact hl
 have:=aaM new old i h hi;rw[cz hl,cz hi] at this;exact iL this
@[simp] def aow(new old:List (List X)):oD new old 0=old:=by simp[oD]
@[simp] def aou(new old:List (List X))(i:Nat)(h:new.length=old.length)(hi:i=old.length):oD new old i=new:=by subst hi;rw[<-h];simp[oD];omega
def qy(n:Nat)(out:ag):ag:=if h:n=0 then out else qy (n / 10) (UInt8.ofNat (48+n%10)::out)
termination_by n
decreasing_by omega
def B4(k:Int):ag:=if k<=0 then [109,48] else 109::qy k.toNat []
def B5(n:Nat)(k:Int):List ag:=(List.range n).map λ(i:Nat)=>B4 (k+i)
def B6(n:Nat)(k:Int):List Wr:=(List.range n).map λ(i:Nat)=>⟨k+2*i,B4 (k+2*i+1)⟩
@[simp] def api(n:Nat)(k:Int):(B5 n k).length=n:=by simp[B5]
@[simp] def apk(n:Nat)(k:Int):(B6 n k).length=n:=by simp[B6]
@[simp] def aph(n:Nat)(k:Int)(i:Nat)(h:i<(B5 n k).length):(B5 n k)[i]=B4 (k+i):=by simp[B5]
@[simp] def apj(n:Nat)(k:Int)(i:Nat)(h:i<(B6 n k).length):(B6 n k)[i]=⟨k+2*i,B4 (k+2*i+1)⟩:=by simp[B6]
def foldI{β γ:Type}(go:Nat->γ->β->γ):Nat->List β->γ->γ
 |_,[],g=>g
 |i,b::l,g=>foldI go (i+1) l (go i g b)
def fP{xt:Nat}{β γ:Type}{f:ah->cB}(l:List β)(st:Nat->γ->ah)(go:Nat->γ->β->γ)(E:γ->ah)(Inv:Nat->γ->Prop)(g:γ)(h0:Inv 0 g)
  (h:∀i b g,l[i]?=some b->i<l.length->Inv i g->f (st i g)=some (.normal,st (i+1) (go i g b)))
  (hI:∀i b g,l[i]?=some b->Inv i g->Inv (i+1) (go i g b))
  (hend:∀g,Inv l.length g->f (st l.length g)=some (.exit xt,E g)):
  aI f (st 0 g)=some (.exit xt,E (foldI go 0 l g)):=by
 suffices H:∀(r:List β) (i:Nat) (g:γ),Inv i g->l.drop i=r->i<=l.length->aI f (st i g)=some (.exit xt,E (foldI go i r g)) from H l 0 g h0 rfl (oq _)
 intro r;induction r with
 |nil=>
  intro i g hi hr hl;have:i=l.length:=by have:=dz List.length hr;simp at this;omega
  subst this;rw[cW,hend g hi];rfl
 |cons b r ih=>
  intro i g hi hr hl
  have hlt:i<l.length:=by
   rcases fV i l.length with h|h;·exact h
   ·rw[O7 h] at hr;cases hr
  have hd:=nr hlt;rw[hr] at hd;have hb:l[i]?=some b:=by rw[cz hlt];cases hd;rfl
  have hr':l.drop (i+1)=r:=by cases hd;rfl
  rw[cW,h i b g hb hlt hi];exact ih (i+1) _ (hI i b g hb hi) hr' hlt
def fO(k:Nat->Bool)(i:Nat)(cs:List ag)(w:Wr):List ag:=if k i=true then cs.set w.at_.toNat w.text else cs
def mP(k:Nat->Bool)(cs:List ag)(ws:List Wr):List ag:=foldI (fO k) 0 ws cs
def BT(k:Nat->Bool)(i:Nat)(cs:List ag)(w:Wr):(fO k i cs w).length=cs.length:=by unfold fO;split<;>simp
def RZ(k:Nat->Bool):∀(ws:List Wr) (i:Nat) (cs:List ag),(foldI (fO k) i ws cs).length=cs.length
 |[],_,_=>rfl
 |w::ws,i,cs=>by rw[foldI,RZ k ws,BT]
def Tx(k:Nat->Bool)(cs:List ag)(ws:List Wr):(mP k cs ws).length=cs.length:=RZ k ws 0 cs
@[simp] def apC(cs:List ag)(n:Nat)(t:ag):(cs.map eS).modify n (λx=>x.set 0 (X.str ⟨t.toArray⟩))=(cs.set n t).map eS:=by
 apply gy;intro j;rw[tR,cZ,cZ,ru];by_cases h:n=j
 ·subst h;simp only[dh];by_cases h2:n<cs.length;·simp[h2]
  ·simp[h2,jG (Nat.le_of_not_lt h2)]
 ·simp only[h,dQ];cases cs[j]?<;>rfl
def fH(keep:List Bool)(all:Bool)(i:Nat):Bool:=all||keep.getD i false
@[simp] def eB(b:Bool):List X:=[.bool b]
@[simp] def apl(m:Md)(l:List Bool):X.bT m (l.map eB)=l.map eB:=by induction l<;>simp_all[X.bT,X.dJ,X.md]
@[simp] def anr(l:List Bool):X.clean.bE (l.map eB)=true:=by induction l<;>simp_all[X.clean.bE,X.clean.cH,X.clean]
def Ir(l:List ag):eC (l.map eS)=true:=by induction l<;>simp_all[eC,scalar]
def U1(l:List Wr):eC (l.map eW)=true:=by induction l<;>simp_all[eC,scalar]
attribute [simp] Ir U1
@[simp] def anq(a b:List (List X)):X.clean.bE (a++b)=(X.clean.bE a && X.clean.bE b):=by
 induction a with
 |nil=>simp[X.clean.bE]
 |cons e a ih=>simp[X.clean.bE,ih,OT]
@[simp] def GA(m:Md)(a b:List (List X)):X.bT m (a++b)=X.bT m a++X.bT m b:=by
 induction a with
 |nil=>simp[X.bT]
 |cons e a ih=>simp[X.bT,ih]
structure bg where
 code:List UInt8
 i:Nat
 h:Int
 hi:i<=code.length
 hl:code.length<=9223372036854775807
@[simp] def eU(b:UInt8):List X:=[.int .u8 (b.toNat:Int)]
@[simp] def apA(m:Md)(l:List UInt8):X.bT m (l.map eU)=l.map eU:=by induction l<;>simp_all[X.bT,X.dJ,X.md]
@[simp] def anF(l:List UInt8):X.clean.bE (l.map eU)=true:=by induction l<;>simp_all[X.clean.bE,X.clean.cH,X.clean]
def aR(c:bg):List X:=[.row .sl 1 (c.code.map eU),.int .i64 c.i,.int .i64 c.h]
@[simp] def an7(c:bg):(aR c).length=3:=rfl
@[simp] def an9(c:bg):(aR c).take 3=aR c:=rfl
@[simp] def an4(c:bg):(aR c).drop 3=[]:=rfl
@[simp] def an8(ks:List Nat)(c:bg):X.nV ks (aR c)=aR c:=rfl
@[simp] def an5(r:Nat)(p:Path)(c:bg):X.gI r p (aR c)=aR c:=rfl
@[simp] def an6(r:Nat)(p:Path)(c:bg):X.qw r p (aR c)=aR c:=rfl
@[simp] def an3(c:bg):X.clean.cH (aR c)=true:=by simp[aR,X.clean.cH,X.clean]
@[simp] def an2(c:bg):X.bare.jl (aR c)=true:=by simp[aR,X.bare.jl,X.bare]
def PN(n:Int):IntKind.i64.wrap (((n%2^IntKind.i64.bits).toNat &&& 255%2^IntKind.i64.bits:Nat):Int)=n%256:=by
 have e:255%2^IntKind.i64.bits=2^8 - 1:=by decide
 have e2:(2:Int)^IntKind.i64.bits=18446744073709551616:=by decide
 rw[e,Nat.and_two_pow_sub_one_eq_mod,IntKind.wrap_i64,e2];omega
def afY{xt:Nat}{γ:Type}{f:ah->cB}(n:Nat)(st:Nat->γ->ah)(Inv:Nat->γ->Prop)(E:γ->ah)(g:γ)(h0:Inv 0 g)
  (h:∀i g,i<n->Inv i g->∃g',f (st i g)=some (.normal,st (i+1) g')/\Inv (i+1) g')
  (hend:∀g,Inv n g->f (st n g)=some (.exit xt,E g)):∃g',Inv n g'/\aI f (st 0 g)=some (.exit xt,E g'):=by
 suffices H:∀k i g,i+k=n->Inv i g->∃g',Inv n g'/\aI f (st i g)=some (.exit xt,E g') from H n 0 g (by omega) h0
 intro k;induction k with
 |zero=>
  intro i g hi hI;obtain rfl:i=n:=by omega
  exact⟨g,hI,by rw[cW,hend g hI];rfl⟩
 |succ k ih=>intro i g hi hI;obtain⟨g1,e1,hI1⟩:=h i g (by omega) hI;obtain⟨g2,K1,e2⟩:=ih (i+1) g1 (by omega) hI1;exact⟨g2,K1,by rw[cW,e1];exact e2⟩
end M
namespace M
open Go Go.RowKit
inductive Ty where
 |int (k:IntKind)
 |bool
 |str
 |row (ts:List Ty)
inductive jj:Ty->X->Prop
 |int {k n}:(Lit.int k n).wf=true->jj (.int k) (.int k n)
 |bool {b}:jj .bool (.bool b)
 |str {s:ByteArray}:s.size<=maxLen->jj .str (.str s)
 |row {ts xs}:xs.length<=maxLen->(∀r:List X,r∈xs->r.length=ts.length)->(∀(r:List X),r∈xs->∀(j:Nat) ty x,ts[j]?=some ty->r[j]?=some x->jj ty x)->jj (.row ts) (.row .sl ts.length xs)
structure D7 (w:World) (ty:Ty) (c:C):Prop where
 cell:c.cell
 cU:c.cU
 fits:c.fits .sl
 ok:c.ok w (Zf (λb _=>b<w.heap.size) λ_ _=>False)
 fp:∀b k,¬c.fp b k
 Ao:jj ty c.er
def lI(w:World):List Ty->List Value->List C->Prop
 |[],[],[]=>True
 |ty::ts,v::vs,c::cs=>c.val=v/\D7 w ty c/\lI w ts vs cs
 |_,_,_=>False
def Sj{w:World}:∀{ts:List Ty} {vs:List Value} {cs:List C} {ts':List Ty} {vs':List Value} {cs':List C},lI w ts vs cs->lI w ts' vs' cs'->lI w (ts++ts') (vs++vs') (cs++cs')
 |[],[],[],_,_,_,_,h=>h
 |_::_,_::_,_::_,_,_,_,⟨h1,h2,h3⟩,h=>⟨h1,h2,Sj h3 h⟩
def Sk{w:World}:∀{ts:List Ty} {vs:List Value} {cs:List C},lI w ts vs cs->vs.length=ts.length/\cs.length=ts.length/\vs=cs.map C.val
 |[],[],[],_=>⟨rfl,rfl,rfl⟩
 |_::_,_::_,_::_,⟨h1,h2,h3⟩=>by obtain⟨e1,e2,e3⟩:=Sk h3;exact⟨by simp[e1],by simp[e2],by simp[h1,<-e3]⟩
def KX{w:World}:∀{ts:List Ty} {vs:List Value} {cs:List C},lI w ts vs cs->∀{j:Nat},j<ts.length->∃ty c,ts[j]?=some ty/\cs[j]?=some c/\vs[j]?=some c.val/\D7 w ty c
 |ty::ts,v::vs,c::cs,⟨h1,h2,h3⟩,0,_=>⟨ty,c,rfl,rfl,by simp[h1],h2⟩
 |ty::ts,v::vs,c::cs,⟨h1,h2,h3⟩,j+1,h=>by obtain⟨ty,c,a1,a2,a3,a4⟩:=KX h3 (j:=j) (by simpa using h);exact⟨ty,c,by simpa using a1,by simpa using a2,by simpa using a3,a4⟩
def zv(P:Program)(r:TypeId->Option (List Ty)):Nat->List Field->Option (List Ty)
 |_,[]=>some []
 |o,f::fs=>if f.offset=o then (r f.type).bind λts=>if ts.length=P.cellsOf f.type then (zv P r (o+ts.length) fs).map (ts++·) else none else none
def jD(P:Program):Nat->Bool->TypeId->Option (List Ty)
 |0,_,_=>none
 |n+1,deep,t=>match P.underlying t with
  |some .bool=>some [.bool]
  |some (.int k)=>some [.int k]
  |some .string=>some [.str]
  |some (.slice e)=>if deep then (jD P n true e).bind λts=>if ts.length=P.cellsOf e/\0<P.cellsOf e then some [.row ts] else none else none
  |some (.struct fs)=>(zv P (jD P n deep) 0 fs.toList).bind λts=>if ts.length=P.cellsOf t then some ts else none
  |_=>none
section
variable {H:Type}{enc:TypeId×Value->H}{P:Program}{w:World}{sp:Nat->Bool}{held:Bool}
def VD{r:TypeId->Option (List Ty)}{cs:List Value}
  (hr:∀t ts fuel cs' x,r t=some ts->DataW.trod enc P w 0 sp held fuel t cs'=some x->(∀v∈cs',v∈cs)->∃Cs,lI w ts cs' Cs):
  ∀(fs:List Field) (o:Nat) (ts:List Ty),zv P r o fs=some ts->(∀f∈fs,∃fuel x,DataW.trod enc P w 0 sp held fuel f.type ((cs.drop f.offset).take (P.cellsOf f.type))=some x)->
   ∃Cs,lI w ts ((cs.drop o).take ts.length) Cs
 |[],o,ts,h,_=>by cases h;exact⟨[],by simp[lI]⟩
 |f::fs,o,ts,h,hx=>by
  simp only[zv] at h;split at h
  ·rename_i ho;simp only[lp] at h;obtain⟨t1,h1,h⟩:=h;split at h;·rename_i hl;simp only[lq] at h;obtain⟨t2,h2,rfl⟩:=h;obtain⟨fuel,x,hf⟩:=hx f (bD ..);obtain⟨C1,g1⟩:=hr _ _ _ _ _ h1 hf λv hv=>Ww (OL hv);obtain⟨C2,g2⟩:=VD hr fs _ _ h2 λf hf=>hx f (bY _ hf);refine⟨C1++C2,?_⟩;rw[eu,List.take_add,DW];rw[ho,<-hl] at g1;exact Sj g1 g2
   ·cases h
  ·cases h
def aiL{w:World}{g o n m:Nat}{spot:Option Nat}{vs:List Value}(hn:0<n)(h:w.cells? 0 ((⟨g,o,spot⟩:Addr).add (0*m)) n=some vs):spot=none:=by
 obtain⟨_,hl,e3⟩:=World.cells?_some h;have e4:=e3 0 hn;have:∃v,vs[0]?=some v:=⟨vs[0],cz (by omega)⟩;obtain⟨v,hv⟩:=this;rw[hv] at e4;have ha:((⟨g,o,spot⟩:Addr).add (0*m)).add 0=⟨g,o,spot⟩:=by simp[Addr.add]
 rw[ha] at e4;unfold World.cell? at e4;cases spot with
 |none=>rfl
 |some k=>
  split at e4;·simp at e4
  ·cases e4
def trod_good:∀(n:Nat) (deep:Bool) (t:TypeId) (ts:List Ty),jD P n deep t=some ts->∀(fuel:Nat) (cs:List Value) (x:DataW H×List MemPlace),DataW.trod enc P w 0 sp held fuel t cs=some x->∃Cs,lI w ts cs Cs
 |0,_,_,_,h,_,_,_,_=>by cases h
 |n+1,deep,t,ts,h,fuel,cs,x,hx=>by
  simp only[jD] at h;split at h;·rename_i hu;cases h;obtain⟨b,rfl,rfl⟩:=DataW.trod_bool hu hx;exact⟨[.bool b],rfl,⟨trivial,trivial,trivial,trivial,λ_ _ h=>h,.bool⟩,trivial⟩
  ·rename_i k hu;cases h;obtain⟨m,rfl,rfl,hw⟩:=DataW.trod_int hu hx;exact⟨[.int k m],rfl,⟨trivial,trivial,trivial,trivial,λ_ _ h=>h,.int hw⟩,trivial⟩
  ·rename_i hu;cases h;obtain⟨s,rfl,rfl,hw⟩:=DataW.trod_string hu hx;exact⟨[.str s],rfl,⟨trivial,trivial,trivial,hw,λ_ _ h=>h,.str hw⟩,trivial⟩
  ·rename_i e hu;split at h
   ·rename_i hd;simp only[lp] at h;obtain⟨te,h1,h⟩:=h;split at h
    ·rename_i hl;obtain⟨hl,hpos⟩:=hl;cases h;rcases DataW.trod_slice hu hx with ⟨rfl,rfl⟩|⟨a,len,cap,elems,rest,m,rfl,rfl,rfl,_,hlc,hcm,hel,iD,_,_⟩;·refine⟨[.row .sl te.length none 0 0 λ_ _=>.dead undef],rfl,⟨trivial,trivial,.inr (.inl rfl),⟨ek _,λi j hi=>by omega,λi j hi=>by omega,λh=>(by cases h),λi j hi=>by omega⟩,λb k h=>(by cases h.1),?_⟩,trivial⟩;exact jj.row (xs:=[]) (by simp) (λr hr=>by cases hr) (λr hr=>by cases hr)
     ·obtain⟨g,o,spot⟩:=a;by_cases hl0:len=0;·subst hl0;refine⟨[.row .sl te.length (some (g,o,spot)) 0 cap λ_ _=>.dead undef],rfl,⟨trivial,trivial,.inr (.inl rfl),⟨hlc,λi j hi=>by omega,λi j hi=>by omega,λh=>(by cases h),λi j hi=>by omega⟩,λb k h=>(by cases h.1),?_⟩,trivial⟩;exact jj.row (xs:=[]) (by simp) (λr hr=>by cases hr) (λr hr=>by cases hr)
      have afb:spot=none:=by have:=iD 0 (by omega);rw[cz (by omega),lp] at this;obtain⟨vs,e1,e2⟩:=this;exact aiL hpos e1
      subst afb
      have hex:∀i,∃(vs:List Value) (l:List C),i<len->w.cells? 0 ((⟨g,o,none⟩:Addr).add (i*P.cellsOf e)) (P.cellsOf e)=some vs/\lI w te vs l:=λi=>by
       by_cases hi:i<len;·have:=iD i hi;rw[cz (by omega),lp] at this;obtain⟨vs,e1,e2⟩:=this;obtain⟨l,hl⟩:=trod_good n true _ _ h1 _ _ _ e2;exact⟨vs,l,λ_=>⟨e1,hl⟩⟩
       ·exact⟨[],[],λh=>(hi h).elim⟩
      let vs:=λi=>(hex i).choose;let l:=λi=>(hex i).choose_spec.choose;have hvl:∀i,i<len->w.cells? 0 ((⟨g,o,none⟩:Addr).add (i*P.cellsOf e)) (P.cellsOf e)=some (vs i)/\lI w te (vs i) (l i):=λi=>(hex i).choose_spec.choose_spec
      have hij:∀i j,i<len->j<te.length->∃ty,te[j]?=some ty/\(l i)[j]?=some ((l i).getD j (.dead undef))/\w.cell? ⟨g,o+i*te.length+j,none⟩=some ((l i).getD j (.dead undef)).val/\D7 w ty ((l i).getD j (.dead undef)):=λi j hi hj=>by
       obtain⟨e1,e2⟩:=hvl i hi;obtain⟨ty,c,a1,a2,a3,a4⟩:=KX e2 hj;have hc:(l i).getD j (.dead undef)=c:=by rw[ji,a2];rfl
       rw[hc];obtain⟨_,_,e3⟩:=World.cells?_some e1;have e4:=e3 j (by omega);rw[a3] at e4;refine⟨ty,a1,a2,?_,a4⟩;rw[<-e4];congr 1;rw[hl];unfold Addr.add;split<;>split<;>simp_all
      have hb:∀i j,i<len->j<te.length->g<w.heap.size:=λi j hi hj=>by obtain⟨_,_,_,h3,_⟩:=hij i j hi hj;exact World.block_lt_of_cell? w _ h3
      refine⟨[.row .sl te.length (some (g,o,none)) len cap λi j=>(l i).getD j (.dead undef)],rfl,⟨trivial,trivial,.inr (.inl rfl),⟨hlc,λi j hi hj=>⟨g,o,rfl,?_,λ_=>hb i j hi hj⟩,λi j hi hj=>?_,λh=>(by cases h),λi j hi hj b k hf=>?_⟩,λb k h=>(by cases h.1),?_⟩,trivial⟩;·obtain⟨ty,_,_,h3,h4⟩:=hij i j hi hj;exact h3
      ·obtain⟨ty,_,_,h3,h4⟩:=hij i j hi hj;exact⟨h4.cell,h4.cU,h4.fits,h4.ok⟩
      ·obtain⟨ty,_,_,h3,h4⟩:=hij i j hi hj;exact(h4.fp b k hf).elim
      ·refine jj.row (by simpa using jF hlc hcm) (λr hr=>?_) λr hr j ty x hty Lt=>?_;·simp only[bw,q6] at hr;obtain⟨i,_,rfl⟩:=hr;simp
       ·simp only[bw,q6] at hr;obtain⟨i,hi,rfl⟩:=hr
        have hj:j<te.length:=by
         rcases fV j te.length with h|h;·exact h
         ·rw[jG h] at hty;cases hty
        obtain⟨ty',e1,_,_,h4⟩:=hij i j hi hj;rw[e1] at hty;cases hty;rw[cZ,tS hj] at Lt;simp only[cv,dP] at Lt;subst Lt;exact h4.Ao
    ·cases h
   ·cases h
  ·rename_i fs hu;simp only[lp] at h;obtain⟨te,h1,h⟩:=h;split at h
   ·rename_i hl;cases h;obtain⟨xs,m,rfl,rfl,hcs,hxl,iD⟩:=DataW.trod_struct hu hx
    obtain⟨Cs,hC⟩:=VD (cs:=cs) (λt ts' fuel cs' x hr ht hm=>trod_good n deep t ts' hr fuel cs' x ht) fs.toList 0 ts h1 λf hf=>by
     obtain⟨i,hi,rfl⟩:=tT hf;have hi':i<fs.size:=by simpa using hi
     have:=iD i (fs[i]) (by simp[hi']);rw[cz (by omega)] at this;exact⟨_,_,by simpa using this⟩
    refine⟨Cs,?_⟩;rw[Jt,hl,<-hcs,wA] at hC;exact hC
   ·cases h
  ·cases h
def Og:∀(n:Nat) (deep:Bool) (t:TypeId) (ts:List Ty),jD P n deep t=some ts->∀(fuel:Nat) (cs:List Value) (x:DataW H×List MemPlace),DataW.trod enc P w 0 (λ_=>true) held fuel t cs=some x->DataW.trod enc P w 0 (λb=>decide (b<w.heap.size)) held fuel t cs=some x
 |0,_,_,_,h,_,_,_,_=>by cases h
 |n+1,deep,t,ts,h,0,cs,x,hx=>by simp[DataW.trod] at hx
 |n+1,deep,t,ts,h,fuel+1,cs,x,hx=>by
  simp only[jD] at h;split at h;·rename_i hu;obtain⟨b,rfl,rfl⟩:=DataW.trod_bool hu hx;simp[DataW.trod,hu]
  ·rename_i k hu;obtain⟨m,rfl,rfl,hw⟩:=DataW.trod_int hu hx;simp[DataW.trod,hu,hw]
  ·rename_i hu;obtain⟨s,rfl,rfl,hw⟩:=DataW.trod_string hu hx;simp[DataW.trod,hu,hw]
  ·rename_i e hu;split at h
   ·simp only[lp] at h;obtain⟨te,h1,h⟩:=h;split at h
    ·rename_i hl;obtain⟨hl,hpos⟩:=hl;rcases DataW.trod_slice hu hx with ⟨rfl,rfl⟩|⟨a,len,cap,elems',rest',m,_,rfl,_⟩;·simp[DataW.trod,hu]
     ·unfold DataW.trod at hx⊢;simp only[hu] at hx⊢;split at hx
      ·rename_i hc;rw[ax hc];simp only[lq,lp,dh] at hx⊢;obtain⟨elems,he,rest,uO,rfl⟩:=hx;have one:∀(i:Nat) (y:DataW H×List MemPlace),(w.cells? 0 (a.add (i*P.cellsOf e)) (P.cellsOf e)).bind (DataW.trod enc P w 0 (λ_=>true) held fuel e)=some y->(w.cells? 0 (a.add (i*P.cellsOf e)) (P.cellsOf e)).bind (DataW.trod enc P w 0 (λb=>decide (b<w.heap.size)) held fuel e)=some y:=λi y hv=>by simp only[lp] at hv⊢;obtain⟨cs',iS,hy'⟩:=hv;exact⟨cs',iS,Og n true _ _ h1 _ _ _ hy'⟩
       refine⟨elems,mapM_carry he λi y _ _ hv=>one i y hv,rest,?_,rfl⟩;by_cases hb:a.block<w.heap.size;·rw[ax (by simpa using hb)];exact mapM_carry uO λi y _ _ hv=>one (len+i) y hv
       ·rw[aF (by simpa using hb)]
        have:cap - len=0:=by
         rcases OU (cap - len) with h|h;·exact h
         ·have h0:=mapM_some_get uO 0 0 (by simp[h]);have hl':0<rest.length:=by have:=mapM_some_length uO;simp at this;omega
          rw[cz hl',lp] at h0;obtain⟨vs,e1,_⟩:=h0;have:=World.cells?_block e1 hpos;refine(hb ?_).elim;unfold Addr.add at this;split at this<;>exact this
        rw[this] at uO;exact uO
      ·cases hx
    ·cases h
   ·cases h
  ·rename_i fs hu;simp only[lp] at h;obtain⟨te,h1,h⟩:=h;unfold DataW.trod at hx⊢;simp only[hu] at hx⊢
   have each:∀(o:Nat) (l:List Field) (ts:List Ty),zv P (jD P n deep) o l=some ts->∀f∈l,∃t1,jD P n deep f.type=some t1:=by
    intro o l;induction l generalizing o with
    |nil=>intro _ _ f hf;cases hf
    |cons f l ih=>
     intro ts h f' hf';simp only[zv] at h;split at h
     ·simp only[lp] at h;obtain⟨t1,e1,h⟩:=h;split at h
      ·simp only[lq] at h;obtain⟨t2,e2,_⟩:=h;rcases b9.1 hf' with rfl|hf';·exact⟨t1,e1⟩
       ·exact ih _ _ e2 f' hf'
      ·cases h
     ·cases h
   split at hx;·rename_i hc;rw[ax hc];simp only[lq] at hx⊢;obtain⟨xs,hx,rfl⟩:=hx;refine⟨xs,mapM_carry hx λf y hf _ hv=>?_,rfl⟩;obtain⟨t1,e1⟩:=each _ _ _ h1 f hf;exact Og n deep _ _ e1 _ _ _ hv
   ·cases hx
  ·cases h
inductive nu where
 |one (ty:Ty)
 |agg (tys:List Ty)
inductive tY:nu->X->Prop
 |one {ty x}:jj ty x->tY (.one ty) x
 |agg {tys:List Ty} {l:List X}:l.length=tys.length->(∀(j:Nat) ty x,tys[j]?=some ty->l[j]?=some x->jj ty x)->tY (.agg tys) (.agg l)
def ud(P:Program)(t:TypeId):Option nu:=match P.underlying t with
 |some (.struct _)=>(jD P 20 true t).map .agg
 |some .bool=>some (.one .bool)
 |some (.int k)=>some (.one (.int k))
 |some .string=>some (.one .str)
 |some (.slice _)=>(jD P 20 true t).bind fun
  |[ty]=>some (.one ty)
  |_=>none
 |_=>none
def P0{c:C}(h1:c.cell)(h2:c.cU):c.bare:=by cases c<;>first|trivial|exact h2.elim
structure Pv (w:World) (a:nu) (v:Value) (c:C):Prop where
 val:c.val=v
 ok:c.ok w (Zf (λb _=>b<w.heap.size) λ_ _=>False)
 bare:c.bare
 fp:∀b k,¬c.fp b k
 Ao:tY a c.er
def Fe{ty:Ty}{cs:List Value}{Cs:List C}{v:Value}(h:lI w [ty] cs Cs)(e:cs=[v]):∃c,Pv w (.one ty) v c:=by
 subst e;match Cs,h with
 |[c],⟨h1,h2,_⟩=>exact⟨c,h1,h2.ok,P0 h2.cell h2.cU,h2.fp,.one h2.Ao⟩
def YH{r:Reach}{base:Nat}{t:TypeId}{v:Value}{d:DataW H}{p:List MemPlace}{a:nu}(ha:ud P t=some a)(hv:Value.okWide P w r base t v)(hd:DataW.Trod enc P w 0 sp held t v d p):∃c,Pv w a v c:=by
 obtain⟨fuel,hf⟩:=hd;unfold ud at ha;split at ha
 ·rename_i fs hu;simp only[lq] at ha;obtain⟨ts,ht,rfl⟩:=ha;unfold Value.okWide at hv;rw[hu] at hv;obtain⟨cs,rfl,_,ts',_,_,hcell⟩:=hv;obtain⟨Cs,hC⟩:=trod_good _ _ _ _ ht _ _ _ hf;obtain⟨l1,l2,l3⟩:=Sk hC;have iD:∀j,j<Cs.length->∃ty,ts[j]?=some ty/\D7 w ty (Cs.getD j (.dead undef)):=λj hj=>by obtain⟨ty,c,a1,a2,a3,a4⟩:=KX hC (j:=j) (by omega);exact⟨ty,a1,by rw[ji,a2];exact a4⟩
  refine⟨.agg Cs.length λj=>Cs.getD j (.dead undef),?_,⟨λj hj=>?_,λj hj b k hf=>?_⟩,λj hj=>?_,λb k ⟨j,hj,hf⟩=>?_,?_⟩;·show Value.agg _=_;congr 1;apply pN;show (List.range Cs.length).map (λj=>(Cs.getD j (.dead undef)).val)=cs.toList;have:(Value.agg cs).cells.toList=cs.toList:=rfl;rw[<-this,l3];letI:Bs:=⟨w⟩;exact mW Cs _ C.val
  ·obtain⟨_,_,h⟩:=iD j hj;exact⟨h.cell,h.ok⟩
  ·obtain⟨_,_,h⟩:=iD j hj;exact(h.fp b k hf).elim
  ·obtain⟨_,_,h⟩:=iD j hj;exact P0 h.cell h.cU
  ·obtain⟨_,_,h⟩:=iD j hj;exact h.fp b k hf
  ·refine tY.agg (by simpa using l2) λj ty x hty hx=>?_
   have hj:j<Cs.length:=by
    rcases fV j Cs.length with h|h;·exact h
    ·rw[jG (by simpa using h)] at hx;cases hx
   obtain⟨ty',e1,h⟩:=iD j hj;rw[e1] at hty;cases hty;rw[cZ,tS hj] at hx;simp only[cv,dP] at hx;subst hx;exact h.Ao
 ·rename_i hu;cases ha;obtain⟨Cs,hC⟩:=trod_good 1 true t [.bool] (by simp[jD,hu]) _ _ _ hf;obtain⟨b,hb,_⟩:=DataW.trod_bool hu hf;exact Fe hC (v:=v) (by unfold Value.okWide at hv;rw[hu] at hv;unfold Cell.okWide at hv;rw[hu] at hv;unfold Cell.ok at hv;rw[hu] at hv;cases v<;>first|rfl|(simp at hv;done))
 ·rename_i k hu;cases ha;obtain⟨m,hb,_⟩:=DataW.trod_int hu hf;obtain⟨Cs,hC⟩:=trod_good 1 true t [.int k] (by simp[jD,hu]) _ _ _ hf;exact Fe hC (v:=v) (by unfold Value.okWide at hv;rw[hu] at hv;unfold Cell.okWide at hv;rw[hu] at hv;unfold Cell.ok at hv;rw[hu] at hv;cases v<;>first|rfl|(simp at hv;done))
 ·rename_i hu;cases ha;obtain⟨m,hb,_⟩:=DataW.trod_string hu hf;obtain⟨Cs,hC⟩:=trod_good 1 true t [.str] (by simp[jD,hu]) _ _ _ hf;exact Fe hC (v:=v) (by unfold Value.okWide at hv;rw[hu] at hv;unfold Cell.okWide at hv;rw[hu] at hv;unfold Cell.ok at hv;rw[hu] at hv;cases v<;>first|rfl|(simp at hv;done))
 ·rename_i e hu;simp only[lp] at ha;obtain⟨ts,ht,ha⟩:=ha;split at ha
  ·rename_i ty;cases ha;have hc:Cell.okWide P w r base t v:=by unfold Value.okWide at hv;rw[hu] at hv;exact hv
   have hv1:v.cells.toList=[v]:=by unfold Cell.okWide at hc;rw[hu] at hc;unfold Cell.ok at hc;rw[hu] at hc;cases v<;>first|rfl|(simp at hc;done)
   obtain⟨Cs,hC⟩:=trod_good _ _ _ _ ht _ _ _ hf;exact Fe hC hv1
  ·cases ha
 ·cases ha
def wG:List nu->List X->Prop
 |[],[]=>True
 |a::as,x::xs=>tY a x/\wG as xs
 |_,_=>False
def PO{r:Reach}{base:Nat}:∀{ts:List TypeId} {as:List nu} {vs:List Value} {ds:List (DataW H)} {p:List MemPlace},ts.map (ud P)=as.map some->
  (∀(j:Nat) t v,ts[j]?=some t->vs[j]?=some v->Value.okWide P w r base t v)->DataW.TrodAll enc P w 0 sp held ts vs ds p->
  ∃cs:List C,cs.map C.val=vs/\(∀c∈cs,c.ok w (Zf (λb _=>b<w.heap.size) λ_ _=>False)/\c.bare/\∀b k,¬c.fp b k)/\wG as (cs.map C.er)
 |[],[],[],[],_,_,_,_=>⟨[],rfl,λ_ h=>(by cases h),trivial⟩
 |t::ts,a::as,v::vs,d::ds,_,ha,hv,⟨p,q,h1,h2,_⟩=>by
  simp only[bn,wE] at ha;obtain⟨c,hc⟩:=YH ha.1 (hv 0 t v rfl rfl) h1;obtain⟨cs,e1,e2,e3⟩:=PO ha.2 (λj t' v' ht ey=>hv (j+1) t' v' (by simpa using ht) (by simpa using ey)) h2;refine⟨c::cs,by simp[hc.val,e1],λx hx=>?_,⟨hc.Ao,e3⟩⟩;rcases b9.1 hx with rfl|hx;·exact⟨hc.ok,hc.bare,hc.fp⟩
  ·exact e2 x hx
def ann{r:Reach}{base:Nat}{ts:List TypeId}{as:List nu}{vs:List Value}{ds:List (DataW H)}{p:List MemPlace}{f:FuncId}(ha:ts.map (ud P)=as.map some)
  (hv:∀(j:Nat) t v,ts[j]?=some t->vs[j]?=some v->Value.okWide P w r base t v)(hd:DataW.TrodAll enc P w 0 sp held ts vs ds p)
  (hAC:∀xs,wG as xs->@AC ⟨w⟩ P f xs λr _=>r=.bool true):Calls P f vs.toArray w λe w'=>e=.returned (.bool true)/\Below w.heap.size w w':=by
 obtain⟨cs,rfl,hcs,hc⟩:=PO ha hv hd;refine(hAC _ hc w (λb _=>b<w.heap.size) (λ_ _=>False) cs rfl ⟨λx hx=>(hcs x hx).1,λx hx=>(hcs x hx).2.1,λx hx b k hf=>((hcs x hx).2.2 b k hf).elim,λb k h=>h.elim id False.elim,?_⟩ λb hb=>⟨rfl,λk=>.inl hb⟩).mono λe w' ⟨r,ps,aH,hD,hr⟩=>?_;·refine q7.2 λi j hi hj _ b k hf=>((hcs _ (cq hi)).2.2 b k hf).elim
 ·letI:Bs:=⟨w⟩;have hr':=rX hr;subst hr';exact⟨hD.ends,(hD.ext.mono (S':=λ_ _=>False) λb k ⟨x,hx,hf⟩ _=>(hcs x hx).2.2 b k hf).below⟩
def YG{t:TypeId}{a:nu}(h:ud P t=some a):∃n deep ts,jD P n deep t=some ts:=by
 unfold ud at h;split at h;·simp only[lq] at h;obtain⟨ts,ht,_⟩:=h;exact⟨_,_,ts,ht⟩
 ·rename_i hu;exact⟨1,true,[.bool],by simp[jD,hu]⟩
 ·rename_i k hu;exact⟨1,true,[.int k],by simp[jD,hu]⟩
 ·rename_i hu;exact⟨1,true,[.str],by simp[jD,hu]⟩
 ·simp only[lp] at h;obtain⟨ts,ht,_⟩:=h;exact⟨_,_,ts,ht⟩
 ·cases h
def al5{w':World}(hb:Below w.heap.size w w'):∀{ts:List TypeId} {as:List nu} {vs:List Value} {ds:List (DataW H)} {p:List MemPlace},ts.map (ud P)=as.map some->
  DataW.TrodAll enc P w 0 (λ_=>true) held ts vs ds p->DataW.TrodAll enc P w' 0 (λb=>decide (b<w.heap.size)) held ts vs ds p
 |[],[],[],[],_,_,h=>h
 |t::ts,a::as,v::vs,d::ds,_,ha,⟨p,q,⟨fuel,h1⟩,h2,e⟩=>by simp only[bn,wE] at ha;obtain⟨n,deep,tt,ht⟩:=YG ha.1;have h3:=Og n deep t tt ht _ _ _ h1;exact⟨p,q,⟨fuel,DataW.trod_carry _ _ _ _ h3 λm hm=>hb.same (DataW.trod_lt _ _ _ _ h3 m hm)⟩,al5 hb ha.2 h2,e⟩
end
end M
namespace M
open Go
def wH(ts:List Ty)(r:List X):Prop:=r.length=ts.length/\∀(j:Nat) ty x,ts[j]?=some ty->r[j]?=some x->jj ty x
def wH.nil{r:List X}(h:wH [] r):r=[]:=Jx.1 h.1
def wH.cons{ty:Ty}{ts:List Ty}{r:List X}(h:wH (ty::ts) r):∃x r',r=x::r'/\jj ty x/\wH ts r':=by
 obtain⟨h1,h2⟩:=h;cases r with
 |nil=>cases h1
 |cons x r=>exact⟨x,r,rfl,h2 0 ty x rfl rfl,by simpa using h1,λj ty x ht hx=>h2 (j+1) ty x (by simpa using ht) (by simpa using hx)⟩
def TG{α:Type}{e:α->List X}{ok:α->Prop}:∀{xs:List (List X)},(∀r∈xs,∃a,r=e a/\ok a)->∃l:List α,xs=l.map e/\∀a∈l,ok a
 |[],_=>⟨[],rfl,λ_ h=>by cases h⟩
 |r::xs,h=>by
  obtain⟨a,e1,e2⟩:=h r (bD ..);obtain⟨l,e3,e4⟩:=TG (λr hr=>h r (bY _ hr));refine⟨a::l,by simp[e1,e3],λb hb=>?_⟩;rcases b9.1 hb with rfl|hb;·exact e2
  ·exact e4 b hb
def aau{α:Type}(e:α->List X)(ok:α->Prop){ts:List Ty}{x:X}(h:jj (.row ts) x)(hr:∀r,wH ts r->∃a,r=e a/\ok a):∃l:List α,x=.row .sl ts.length (l.map e)/\l.length<=9223372036854775807/\∀a∈l,ok a:=by
 cases h with
 |row h1 h2 h3=>rename_i xs;obtain⟨l,rfl,hl⟩:=TG (e:=e) (ok:=ok) (xs:=xs) λr hr'=>hr r ⟨h2 r hr',h3 r hr'⟩;rw[cV] at h1;exact⟨l,rfl,h1,hl⟩
def anQ{ty:Ty}{x:X}(h:tY (.one ty) x):jj ty x:=by
 cases h with
 |one h=>exact h
def anR{a:nu}{as:List nu}{xs:List X}(h:wG (a::as) xs):∃x xs',xs=x::xs'/\tY a x/\wG as xs':=by
 match xs,h with
 |x::xs',⟨h1,h2⟩=>exact⟨x,xs',rfl,h1,h2⟩
def anS{xs:List X}(h:wG [] xs):xs=[]:=by
 match xs,h with
 |[],_=>rfl
structure amR (d:aV):Prop where
 hb:d.cells.length<=9223372036854775807
 hs:∀s∈d.cells,s.length<=9223372036854775807
 hb':d.pending.length<=9223372036854775807
 hs':∀s∈d.pending,s.text.length<=9223372036854775807
 hi:∀s∈d.pending,-9223372036854775808<=s.at_/\s.at_<=9223372036854775807
def aat{x:X}(h:jj (.int .u8) x):∃b:UInt8,x=.int .u8 (b.toNat:Int):=by
 cases h with
 |int h=>rename_i n;have h':(decide (IntKind.u8.min<=n) && decide (n<=IntKind.u8.max))=true:=h;rw[aB,bp,bp] at h';have h1:0<=n:=h'.1;have h2:n<=255:=h'.2;refine⟨UInt8.ofNat n.toNat,?_⟩;rw[Jl];congr 1;omega
def anT{x:X}(h:jj (.row [.int .u8]) x):∃l:List UInt8,x=.row .sl 1 (l.map eU)/\l.length<=9223372036854775807/\∀b∈l,True:=
 aau eU (λ_=>True) h λr hr=>by obtain⟨x,r',rfl,h1,h2⟩:=hr.cons;obtain rfl:=h2.nil;obtain⟨b,rfl⟩:=aat h1;exact⟨b,rfl,trivial⟩
end M
namespace M
open Go
def af0{γ:Type}{f:ah->cB}(st:γ->ah)(μ:γ->Nat)(Inv:γ->Prop)(E:γ->ah)
  (h:∀g,Inv g->(∃g',Inv g'/\f (st g)=some (.exit 0,E g'))\/∃g',Inv g'/\μ g'<μ g/\f (st g)=some (.normal,st g'))(g:γ)(hg:Inv g):∃g',Inv g'/\aI f (st g)=some (.exit 0,E g'):=by
 suffices H:∀n g,μ g=n->Inv g->∃g',Inv g'/\aI f (st g)=some (.exit 0,E g') from H _ g rfl hg
 intro n;induction n using Nat.strongRecOn with
 |ind n ih=>
  intro g hn hI;rcases h g hI with ⟨g',h1,h2⟩|⟨g',h1,h2,h3⟩;·exact⟨g',h1,by rw[cW,h2];rfl⟩
  ·obtain⟨g2,h4,h5⟩:=ih _ (hn▸h2) g' rfl h1;exact⟨g2,h4,by rw[cW,h3];exact h5⟩
end M
namespace M
open Go
def VH(m:Nat)(h:m<256):qX [[.int .u8 (m:Int)]]=some [UInt8.ofNat m]:=by
 have:=Oi [UInt8.ofNat m];have e:((UInt8.ofNat m).toNat:Int)=m:=by rw[Jl];omega
 simp only[bn,jh,e] at this;exact this
def Ot{n:Int}(h1:0<=n)(h2:n<256):IntKind.u8.wrap n=n:=by simp only[IntKind.wrap,IntKind.signed,IntKind.bits,Bool.false_and,fD,dQ];omega
def aL(n:Nat):ag:=Lib.decDigits n
def TR:∀(n:Nat) (out:ag),n≠0->qy n out=aL n++out:=by
 intro n;induction n using Nat.strongRecOn with
 |ind n ih=>
  intro out h;unfold qy aL;rw[rj h,Lib.decDigits];by_cases h1:n<10
  ·have e:n / 10=0:=by omega
   have e2:n%10=n:=by omega
   rw[lu h1,e,e2];unfold qy;rw[lu rfl];rfl
  ·rw[rj h1,ih (n / 10) (by omega) _ (by omega)];unfold aL;rw[mz];rfl
def ER:aL 0=[48]:=by unfold aL;rw[Lib.decDigits];rfl
def p8(k:Nat):∀(n:Nat),n<10^(k+1)->(aL n).length<=k+1:=by
 induction k with
 |zero=>intro n h;unfold aL;rw[Lib.decDigits,lu (by simpa using h)];simp
 |succ k ih=>
  intro n h;unfold aL;rw[Lib.decDigits];by_cases h1:n<10;·rw[lu h1];simp
  ·rw[rj h1,eu];have:=ih (n / 10) (by rw[Jj] at h;omega);unfold aL at this;simp only[cw,gA];omega
def L8(n:Nat):Lib.itoa (n:Int)=aL n:=by unfold Lib.itoa aL;rw[aF (by omega)];rfl
def BQ:List X->Option X
 |[.int .i64 n]=>if -9223372036854775808<=n/\n<=9223372036854775807 then some (.str ⟨(Go.Lib.itoa n).toArray⟩) else none
 |_=>none
def afo(f:FuncId)(n:Nat)(h:n<10^18):iX f BQ f [.int .i64 (n:Int)]=some (.str ⟨(aL n).toArray⟩,[.dead]):=by
 have h1:(n:Int)<=9223372036854775807:=by omega
 have h2:=p8 17 n (by omega);simp[iX,BQ,L8,scalar,Dt,h1];omega
end M
namespace M
open Go
def wS(s:ag):Nat:=s.length
def wL{α:Type}(w:α->Nat)(l:List α):Nat:=l.length+(l.map w).sum
def q5{α:Type}{w:α->Nat}:∀{l:List α} {a:α},a∈l->w a<=wL w l
 |b::l,a,h=>by
  rcases b9.1 h with rfl|h;·simp[wL];omega
  ·have:=q5 (w:=w) h;simp[wL] at this⊢;omega
def bh{α:Type}{w:α->Nat}(l:List α):l.length<=wL w l:=by unfold wL;omega
def bI(n:Int):Prop:=-9223372036854775808<=n/\n<=9223372036854775807
def bS(s:ag):Prop:=s.length<=9223372036854775807
def bB(_:Bool):Prop:=True
def bL{α:Type}(b:α->Prop)(l:List α):Prop:=l.length<=9223372036854775807/\∀a∈l,b a
@[simp] def eI(n:Int):List X:=[.int .i64 n]
@[simp] def aps(m:Md)(l:List Int):X.bT m (l.map eI)=l.map eI:=by induction l<;>simp_all[X.bT,X.dJ,X.md]
@[simp] def anx(l:List Int):X.clean.bE (l.map eI)=true:=by induction l<;>simp_all[X.clean.bE,X.clean.cH,X.clean]
structure aK where
 name:ag
 value:ag
 deriving DecidableEq
@[simp] def aS(a:aK):List X:=[.str ⟨(a.name).toArray⟩,.str ⟨(a.value).toArray⟩]
@[simp] def apr(m:Md)(l:List aK):X.bT m (l.map aS)=l.map aS:=by induction l<;>simp_all[X.bT,X.dJ,X.md]
@[simp] def anw(l:List aK):X.clean.bE (l.map aS)=true:=by induction l<;>simp_all[X.clean.bE,X.clean.cH,X.clean]
def aP(a:aK):Nat:=a.name.length+a.value.length
structure PU (x:aK):Prop where
 aoY:bS x.name
 apa:bS x.value
structure bU where
 status:Int
 fields:List aK
 body:ag
 deriving DecidableEq
@[simp] def ga(m:Md)(a:bU):List X:=[.int .i64 a.status,.row m 2 ((a.fields).map aS),.str ⟨(a.body).toArray⟩]
@[simp] def apw(m m':Md)(l:List bU):X.bT m (l.map (ga m'))=l.map (ga m):=by induction l<;>simp_all[X.bT,X.dJ,X.md]
@[simp] def anC(l:List bU):X.clean.bE (l.map (ga .own))=true:=by induction l<;>simp_all[X.clean.bE,X.clean.cH,X.clean]
@[simp] def anM(l:List bU):X.clean.bE (l.map (ga .sl))=true:=by induction l<;>simp_all[X.clean.bE,X.clean.cH,X.clean]
def bH(a:bU):Nat:=wL aP a.fields+a.body.length
structure Eh (x:bU):Prop where
 ao8:bI x.status
 afw:(bL PU) x.fields
 afu:bS x.body
structure Rq where
 method:Int
 path:ag
 fields:List aK
 body:ag
 deriving DecidableEq
@[simp] def oC(m:Md)(a:Rq):List X:=[.int .i64 a.method,.str ⟨(a.path).toArray⟩,.row m 2 ((a.fields).map aS),.str ⟨(a.body).toArray⟩]
@[simp] def apv(m m':Md)(l:List Rq):X.bT m (l.map (oC m'))=l.map (oC m):=by induction l<;>simp_all[X.bT,X.dJ,X.md]
@[simp] def anB(l:List Rq):X.clean.bE (l.map (oC .own))=true:=by induction l<;>simp_all[X.clean.bE,X.clean.cH,X.clean]
@[simp] def anL(l:List Rq):X.clean.bE (l.map (oC .sl))=true:=by induction l<;>simp_all[X.clean.bE,X.clean.cH,X.clean]
def me(a:Rq):Nat:=a.path.length+wL aP a.fields+a.body.length
structure Eg (x:Rq):Prop where
 aoX:bI x.method
 afy:bS x.path
 afw:(bL PU) x.fields
 afu:bS x.body
structure Ob where
 path:ag
 names:List ag
 values:List ag
 resp:bU
 t:Int
 deriving DecidableEq
@[simp] def aW(m:Md)(a:Ob):List X:=[.str ⟨(a.path).toArray⟩,.row m 1 ((a.names).map eS),.row m 1 ((a.values).map eS),.int .i64 a.resp.status,.row m 2 ((a.resp.fields).map aS),.str ⟨(a.resp.body).toArray⟩,.int .i64 a.t]
@[simp] def apt(m m':Md)(l:List Ob):X.bT m (l.map (aW m'))=l.map (aW m):=by induction l<;>simp_all[X.bT,X.dJ,X.md]
@[simp] def anz(l:List Ob):X.clean.bE (l.map (aW .own))=true:=by induction l<;>simp_all[X.clean.bE,X.clean.cH,X.clean]
@[simp] def anJ(l:List Ob):X.clean.bE (l.map (aW .sl))=true:=by induction l<;>simp_all[X.clean.bE,X.clean.cH,X.clean]
def bG(a:Ob):Nat:=a.path.length+wL wS a.names+wL wS a.values+bH a.resp
structure JO (x:Ob):Prop where
 afy:bS x.path
 aoZ:(bL bS) x.names
 apb:(bL bS) x.values
 Ma:Eh x.resp
 Mb:bI x.t
structure Kp where
 obj:Ob
 at_:Int
 seq:Int
 deriving DecidableEq
@[simp] def aj(m:Md)(a:Kp):List X:=[.str ⟨(a.obj.path).toArray⟩,.row m 1 ((a.obj.names).map eS),.row m 1 ((a.obj.values).map eS),.int .i64 a.obj.resp.status,.row m 2 ((a.obj.resp.fields).map aS),.str ⟨(a.obj.resp.body).toArray⟩,.int .i64 a.obj.t,.int .i64 a.at_,.int .i64 a.seq]
@[simp] def Mr(m m':Md)(l:List Kp):X.bT m (l.map (aj m'))=l.map (aj m):=by induction l<;>simp_all[X.bT,X.dJ,X.md]
@[simp] def Q2(l:List Kp):X.clean.bE (l.map (aj .own))=true:=by induction l<;>simp_all[X.clean.bE,X.clean.cH,X.clean]
@[simp] def aao(l:List Kp):X.clean.bE (l.map (aj .sl))=true:=by induction l<;>simp_all[X.clean.bE,X.clean.cH,X.clean]
def aX(a:Kp):Nat:=bG a.obj
structure YK (x:Kp):Prop where
 afx:JO x.obj
 afs:bI x.at_
 afz:bI x.seq
def cY(a:Wr):Nat:=a.text.length
structure YO (x:Wr):Prop where
 afs:bI x.at_
 ao9:bS x.text
def bC(a:aV):Nat:=wL wS a.cells+wL cY a.pending
structure YI (x:aV):Prop where
 aoS:(bL bS) x.cells
 ao4:(bL YO) x.pending
structure Bn where
 kind:Int
 a:ag
 b:ag
 t:Int
 deriving DecidableEq
@[simp] def aY(a:Bn):List X:=[.int .i64 a.kind,.str ⟨(a.a).toArray⟩,.str ⟨(a.b).toArray⟩,.int .i64 a.t]
@[simp] def apm(m:Md)(l:List Bn):X.bT m (l.map aY)=l.map aY:=by induction l<;>simp_all[X.bT,X.dJ,X.md]
@[simp] def ans(l:List Bn):X.clean.bE (l.map aY)=true:=by induction l<;>simp_all[X.clean.bE,X.clean.cH,X.clean]
def aO(a:Bn):Nat:=a.a.length+a.b.length
structure PT (x:Bn):Prop where
 Tp:bI x.kind
 k_a:bS x.a
 k_b:bS x.b
 Mb:bI x.t
structure Sh where
 aD:aV
 ai:List Kp
 ay:List Bn
 next:Int
 seq:Int
 deriving DecidableEq
@[simp] def aG(m:Md)(a:Sh):List X:=[.row m 1 ((a.aD.cells).map eS),.row m 2 ((a.aD.pending).map eW),.row m 9 ((a.ai).map (aj m)),.row m 4 ((a.ay).map aY),.int .i64 a.next,.int .i64 a.seq]
@[simp] def apz(m m':Md)(l:List Sh):X.bT m (l.map (aG m'))=l.map (aG m):=by induction l<;>simp_all[X.bT,X.dJ,X.md]
@[simp] def anE(l:List Sh):X.clean.bE (l.map (aG .own))=true:=by induction l<;>simp_all[X.clean.bE,X.clean.cH,X.clean]
@[simp] def anO(l:List Sh):X.clean.bE (l.map (aG .sl))=true:=by induction l<;>simp_all[X.clean.bE,X.clean.cH,X.clean]
def aZ(a:Sh):Nat:=bC a.aD+wL aX a.ai+wL aO a.ay
structure YN (x:Sh):Prop where
 aoT:YI x.aD
 ao2:(bL YK) x.ai
 aft:(bL PT) x.ay
 ao0:bI x.next
 afz:bI x.seq
structure Fl where
 q:Rq
 who:List Int
 old:Ob
 Fq:Bool
 deriving DecidableEq
@[simp] def Ay(m:Md)(a:Fl):List X:=[.int .i64 a.q.method,.str ⟨(a.q.path).toArray⟩,.row m 2 ((a.q.fields).map aS),.str ⟨(a.q.body).toArray⟩,.row m 1 ((a.who).map eI),.str ⟨(a.old.path).toArray⟩,.row m 1 ((a.old.names).map eS),.row m 1 ((a.old.values).map eS),.int .i64 a.old.resp.status,.row m 2 ((a.old.resp.fields).map aS),.str ⟨(a.old.resp.body).toArray⟩,.int .i64 a.old.t,.bool a.Fq]
@[simp] def apq(m m':Md)(l:List Fl):X.bT m (l.map (Ay m'))=l.map (Ay m):=by induction l<;>simp_all[X.bT,X.dJ,X.md]
@[simp] def anv(l:List Fl):X.clean.bE (l.map (Ay .own))=true:=by induction l<;>simp_all[X.clean.bE,X.clean.cH,X.clean]
@[simp] def anI(l:List Fl):X.clean.bE (l.map (Ay .sl))=true:=by induction l<;>simp_all[X.clean.bE,X.clean.cH,X.clean]
structure YJ (x:Fl):Prop where
 L9:Eg x.q
 apc:(bL bI) x.who
 ao3:JO x.old
 aoV:bB x.Fq
structure Se where
 q:Rq
 resp:bU
 t:Int
 deriving DecidableEq
@[simp] def AA(m:Md)(a:Se):List X:=[.int .i64 a.q.method,.str ⟨(a.q.path).toArray⟩,.row m 2 ((a.q.fields).map aS),.str ⟨(a.q.body).toArray⟩,.int .i64 a.resp.status,.row m 2 ((a.resp.fields).map aS),.str ⟨(a.resp.body).toArray⟩,.int .i64 a.t]
@[simp] def apy(m m':Md)(l:List Se):X.bT m (l.map (AA m'))=l.map (AA m):=by induction l<;>simp_all[X.bT,X.dJ,X.md]
@[simp] def anD(l:List Se):X.clean.bE (l.map (AA .own))=true:=by induction l<;>simp_all[X.clean.bE,X.clean.cH,X.clean]
@[simp] def anN(l:List Se):X.clean.bE (l.map (AA .sl))=true:=by induction l<;>simp_all[X.clean.bE,X.clean.cH,X.clean]
structure YM (x:Se):Prop where
 L9:Eg x.q
 Ma:Eh x.resp
 Mb:bI x.t
structure Rp where
 client:Int
 q:Rq
 resp:bU
 kind:Int
 t:Int
 obj:Ob
 ay:Int
 deriving DecidableEq
@[simp] def Az(m:Md)(a:Rp):List X:=[.int .i64 a.client,.int .i64 a.q.method,.str ⟨(a.q.path).toArray⟩,.row m 2 ((a.q.fields).map aS),.str ⟨(a.q.body).toArray⟩,.int .i64 a.resp.status,.row m 2 ((a.resp.fields).map aS),.str ⟨(a.resp.body).toArray⟩,.int .i64 a.kind,.int .i64 a.t,.str ⟨(a.obj.path).toArray⟩,.row m 1 ((a.obj.names).map eS),.row m 1 ((a.obj.values).map eS),.int .i64 a.obj.resp.status,.row m 2 ((a.obj.resp.fields).map aS),.str ⟨(a.obj.resp.body).toArray⟩,.int .i64 a.obj.t,.int .i64 a.ay]
@[simp] def apu(m m':Md)(l:List Rp):X.bT m (l.map (Az m'))=l.map (Az m):=by induction l<;>simp_all[X.bT,X.dJ,X.md]
@[simp] def anA(l:List Rp):X.clean.bE (l.map (Az .own))=true:=by induction l<;>simp_all[X.clean.bE,X.clean.cH,X.clean]
@[simp] def anK(l:List Rp):X.clean.bE (l.map (Az .sl))=true:=by induction l<;>simp_all[X.clean.bE,X.clean.cH,X.clean]
structure YL (x:Rp):Prop where
 afv:bI x.client
 L9:Eg x.q
 Ma:Eh x.resp
 Tp:bI x.kind
 Mb:bI x.t
 afx:JO x.obj
 aft:bI x.ay
structure Ca where
 jB:Sh
 nB:List Fl
 now:Int
 seen:List Se
 sent:List Rp
 deriving DecidableEq
@[simp] def ET(m:Md)(a:Ca):List X:=[.row m 1 ((a.jB.aD.cells).map eS),.row m 2 ((a.jB.aD.pending).map eW),.row m 9 ((a.jB.ai).map (aj m)),.row m 4 ((a.jB.ay).map aY),.int .i64 a.jB.next,.int .i64 a.jB.seq,.row m 13 ((a.nB).map (Ay m)),.int .i64 a.now,.row m 8 ((a.seen).map (AA m)),.row m 18 ((a.sent).map (Az m))]
@[simp] def apn(m m':Md)(l:List Ca):X.bT m (l.map (ET m'))=l.map (ET m):=by induction l<;>simp_all[X.bT,X.dJ,X.md]
@[simp] def ant(l:List Ca):X.clean.bE (l.map (ET .own))=true:=by induction l<;>simp_all[X.clean.bE,X.clean.cH,X.clean]
@[simp] def anG(l:List Ca):X.clean.bE (l.map (ET .sl))=true:=by induction l<;>simp_all[X.clean.bE,X.clean.cH,X.clean]
structure bCa (x:Ca):Prop where
 ao7:YN x.jB
 aoU:(bL YJ) x.nB
 ao1:bI x.now
 ao5:(bL YM) x.seen
 ao6:(bL YL) x.sent
structure De where
 kind:Int
 client:Int
 q:Rq
 a:Int
 resp:bU
 rG:Bn
 keep:List Bool
 deriving DecidableEq
@[simp] def EU(m:Md)(a:De):List X:=[.int .i64 a.kind,.int .i64 a.client,.int .i64 a.q.method,.str ⟨(a.q.path).toArray⟩,.row m 2 ((a.q.fields).map aS),.str ⟨(a.q.body).toArray⟩,.int .i64 a.a,.int .i64 a.resp.status,.row m 2 ((a.resp.fields).map aS),.str ⟨(a.resp.body).toArray⟩,.int .i64 a.rG.kind,.str ⟨(a.rG.a).toArray⟩,.str ⟨(a.rG.b).toArray⟩,.int .i64 a.rG.t,.row m 1 ((a.keep).map eB)]
@[simp] def apo(m m':Md)(l:List De):X.bT m (l.map (EU m'))=l.map (EU m):=by induction l<;>simp_all[X.bT,X.dJ,X.md]
@[simp] def anu(l:List De):X.clean.bE (l.map (EU .own))=true:=by induction l<;>simp_all[X.clean.bE,X.clean.cH,X.clean]
@[simp] def anH(l:List De):X.clean.bE (l.map (EU .sl))=true:=by induction l<;>simp_all[X.clean.bE,X.clean.cH,X.clean]
structure bDe (x:De):Prop where
 Tp:bI x.kind
 afv:bI x.client
 L9:Eg x.q
 k_a:bI x.a
 Ma:Eh x.resp
 aoR:PT x.rG
 aoW:(bL bB) x.keep
end M
namespace M
open Go
def cL{β:Type}(p:β->Bool):Nat->List β->Option (Nat×β)
 |_,[]=>none
 |i,b::l=>if p b=true then some (i,b) else cL p (i+1) l
def qa{β:Type}{p:β->Bool}:∀{l:List β} {k i:Nat} {b:β},cL p k l=some (i,b)->k<=i/\l[i - k]?=some b/\p b=true
 |b'::l,k,i,b,h=>by
  unfold cL at h;split at h;·rename_i hp;cases h;exact⟨ek _,by simp,hp⟩
  ·obtain⟨h1,h2,h3⟩:=qa h;refine⟨by omega,?_,h3⟩;rw[show i - k=(i - (k+1))+1 by omega,Jv];exact h2
def E3{β:Type}{p:β->Bool}:∀{l:List β} {k:Nat},cL p k l=none↔∀b∈l,¬p b=true
 |[],k=>by simp[cL]
 |b'::l,k=>by
  unfold cL;by_cases hp:p b'=true;·simp[hp]
  ·rw[aF hp,E3];simp[hp]
def vg{xt:Nat}{β:Type}{f:ah->cB}(l:List β)(st:Nat->ah)(p:β->Bool)(R:Nat->β->ah)(E:ah)
  (h:∀i b,l[i]?=some b->i<l.length->f (st i)=if p b=true then some (.ret,R i b) else some (.normal,st (i+1)))
  (hend:f (st l.length)=some (.exit xt,E)):
  aI f (st 0)=(cL p 0 l).elim (some (.exit xt,E)) λx=>some (.ret,R x.1 x.2):=by
 suffices H:∀(r:List β) (i:Nat),l.drop i=r->i<=l.length->aI f (st i)=(cL p i r).elim (some (.exit xt,E)) λx=>some (.ret,R x.1 x.2) from H l 0 rfl (oq _)
 intro r;induction r with
 |nil=>
  intro i hr hi;have:i=l.length:=by have:=dz List.length hr;simp at this;omega
  subst this;rw[cW,hend];rfl
 |cons b r ih=>
  intro i hr hi;have hb:l[i]?=some b:=by have:=dz (λt:List β=>t[0]?) hr;simpa using this
  have hlt:i<l.length:=(aJ.1 hb).1;have hd:l.drop (i+1)=r:=by have:=dz List.tail hr;simpa using this
  rw[cW,h i b hb hlt];unfold cL;by_cases hp:p b=true;·simp[hp,lv]
  ·simp only[hp];exact ih (i+1) hd hlt
def oO{xt:Nat}{β γ:Type}{f:ah->cB}(l:List β)(φ:β->List γ)(st:Nat->List γ->ah)(E:List γ->ah)
  (h:∀i b out,l[i]?=some b->i<l.length->out=(l.take i).flatMap φ->f (st i out)=some (.normal,st (i+1) (out++φ b)))
  (hend:∀out,out=l.flatMap φ->f (st l.length out)=some (.exit xt,E out)):
  aI f (st 0 [])=some (.exit xt,E (l.flatMap φ)):=by
 suffices H:∀(k i:Nat),i+k=l.length->aI f (st i ((l.take i).flatMap φ))=some (.exit xt,E (l.flatMap φ)) from H l.length 0 (by omega)
 intro k;induction k with
 |zero=>
  intro i hi;obtain rfl:i=l.length:=by omega
  rw[wA,cW,hend _ rfl];rfl
 |succ k ih=>
  intro i hi;have hlt:i<l.length:=by omega
  rw[cW,h i l[i] _ (cz hlt) hlt rfl];have:(l.take i).flatMap φ++φ l[i]=(l.take (i+1)).flatMap φ:=by rw[pQ hlt,Pc];simp
  simp only[this];exact ih (i+1) (by omega)
def AD{β γ:Type}(g:β->γ)(l:List β):l.flatMap (λb=>[g b])=l.map g:=by induction l<;>simp_all
def xj{β γ:Type}(g:β->γ)(l:List β)(i:Nat)(h:i<=l.length):((l.take i).flatMap (λb=>[g b])).length=i:=by rw[AD];simp;omega
end M
namespace M
open Go
def nP(b:UInt8):UInt8:=if 65<=b.toNat/\b.toNat<=90 then b+32 else b
def cK(s:ag):ag:=s.map nP
def qW(b:UInt8):Bool:=decide ((97<=b.toNat/\b.toNat<=122)\/(48<=b.toNat/\b.toNat<=57)\/b.toNat=45)
def dX(s:ag):Bool:=bq qW s && decide (1<=(s.length:Int)/\(s.length:Int)<=20)
def iw(lo:Nat)(b:UInt8):Bool:=decide (lo<=b.toNat/\b.toNat<=126)
def gw(s:ag):ag:=Lib.trimB s 32
def fU(s:ag):Bool:=bq (iw 32) s && decide (1<=(s.length:Int)/\(s.length:Int)<=60) && decide (gw s=s)
def cy(n:Int):ag:=if 0<=n/\n<=1000000 then aL n.toNat else []
def gF(b:UInt8):Bool:=decide (48<=b.toNat/\b.toNat<=57)
def mc(s:ag):Nat:=s.foldl (λx b=>10*x+b.toNat - 48) 0
def bz(s:ag):Option Nat:=if mc s<=1000000/\aL (mc s)=s then some (mc s) else none
def ij(s:ag):Bool:=bq (iw 33) s && decide (1<=(s.length:Int)/\(s.length:Int)<=60) && decide (s[0]?.map (λb:UInt8=>(b.toNat:Int))=some 47)
def KB{α:Type}(p:α->Bool):∀(a b:List α),(∃x∈a,p x=false)->(a++b).dropWhile p=a.dropWhile p++b
 |[],b,h=>by simp at h
 |x::a,b,h=>by
  simp only[fM,zO];by_cases hx:p x=true
  ·simp only[hx,dh];refine KB p a b ?_;obtain⟨y,hy,hp⟩:=h;rcases b9.1 hy with rfl|hy;·rw[hx] at hp;cases hp
   ·exact⟨y,hy,hp⟩
  ·simp[hx]
def KA{α:Type}(p:α->Bool):∀(a:List α),(∀x∈a,p x=true)->a.dropWhile p=[]
 |[],_=>rfl
 |x::a,h=>by rw[zO,ax (h x (bD ..))];exact KA p a λy hy=>h y (bY _ hy)
def KC{α:Type}(p:α->Bool):∀{a:List α} {x:α},x∈a->p x=false->x∈a.dropWhile p
 |y::a,x,h,hp=>by
  rw[zO];by_cases hy:p y=true
  ·rw[ax hy];rcases b9.1 h with rfl|h;·rw[hy] at hp;cases hp
   ·exact KC p h hp
  ·rw[aF hy];exact h
def Rj{α:Type}(p:α->Bool)(l:List α):∃a,l=a++l.dropWhile p/\∀x∈a,p x=true:=by refine⟨l.takeWhile p,(List.takeWhile_append_dropWhile).symm,λx hx=>?_⟩;have:=List.all_takeWhile (l:=l) (p:=p);exact pR.1 this x hx
def al4(p:UInt8->Bool)(l:List UInt8):(l.reverse.dropWhile p).reverse.dropWhile p=((l.dropWhile p).reverse.dropWhile p).reverse:=by
 by_cases h:∃x∈l,p x=false
 ·obtain⟨x,hx,hp⟩:=h;obtain⟨a,e1,h1⟩:=Rj p l;have hm:x∈l.dropWhile p:=KC p hx hp
  have e2:l.reverse.dropWhile p=(l.dropWhile p).reverse.dropWhile p++a.reverse:=by
   conv=>lhs;rw[e1,OQ]
   exact KB p _ _ ⟨x,by simpa using hm,hp⟩
  rw[e2,OQ,WB];obtain⟨b,e3,h3⟩:=Rj p (l.dropWhile p).reverse;generalize hd:(l.dropWhile p).reverse.dropWhile p=d at e3⊢;have aew:∃y∈d,p y=false:=⟨x,by rw[<-hd];exact KC p (by simpa using hm) hp,hp⟩;have e4:l.dropWhile p=d.reverse++b.reverse:=by have:=dz List.reverse e3;simpa using this
  have e5:(a++d.reverse).dropWhile p=d.reverse.dropWhile p:=by
   clear e1 e2 e3 hm;induction a with
   |nil=>rfl
   |cons y a ih=>rw[fM,zO,ax (h1 y (bD ..))];exact ih λz hz=>h1 z (bY _ hz)
  rw[e5]
  have e6:(l.dropWhile p).dropWhile p=l.dropWhile p:=by
   have:∀l:List UInt8,(l.dropWhile p).dropWhile p=l.dropWhile p:=by
    intro l;induction l with
    |nil=>rfl
    |cons y l ih=>
     rw[zO];by_cases hy:p y=true;·rw[ax hy];exact ih
     ·rw[aF hy,zO,aF hy]
   exact this l
  rw[e4] at e6;rw[KB p d.reverse b.reverse (by obtain⟨y,hy,hp⟩:=aew;exact⟨y,by simpa using hy,hp⟩)] at e6;exact List.append_cancel_right e6
 ·have h1:∀x∈l,p x=true:=λx hx=>by
   cases hp:p x with
   |true=>rfl
   |false=>exact absurd ⟨x,hx,hp⟩ h
  rw[KA p l h1,KA p l.reverse (λx hx=>h1 x (by simpa using hx))];rfl
def al3(s:ag):gw s=Lib.trimRightB (Lib.trimLeftB s 32) 32:=al4 _ s
def VC(s:ag):(gw s).length<=s.length:=by unfold gw Lib.trimB Lib.trimLeftB Lib.trimRightB;have h1:=(WL (l:=(List.dropWhile (λx=>x==32) s.reverse).reverse) (λx=>x==(32:UInt8))).length_le;have h2:=(WL (l:=s.reverse) (λx=>x==(32:UInt8))).length_le;simp only[Jy] at h1 h2;omega
def adU{α β:Type}(f:β->α->β)(l:List α)(a:α)(b:β):(l++[a]).foldl f b=f (l.foldl f b) a:=by simp
def Kv(n:Nat):aL n≠[]:=by intro h;have:(aL n).length=Lib.nDigits n:=Lib.decDigits_length n;rw[h] at this;have h2:=Lib.nDigits_pos n;rw[<-this] at h2;simp at h2
def Ky(n:Nat)(h:¬n<10):aL n=aL (n / 10)++[UInt8.ofNat (48+n%10)]:=by unfold aL;rw[Lib.decDigits,rj h]
def Kw(n:Nat)(h:n<10):aL n=[UInt8.ofNat (48+n)]:=by unfold aL;rw[Lib.decDigits,lu h]
def wZ(k:Nat)(h:k<10):(UInt8.ofNat (48+k)).toNat=48+k:=by rw[Jl];omega
def VK:∀n:Nat,mc (aL n)=n:=by
 intro n;induction n using Nat.strongRecOn with
 |ind n ih=>
  by_cases h:n<10;·rw[Kw n h];simp only[mc,ou,List.foldl_nil,wZ n h];omega
  ·rw[Ky n h];have:=ih (n / 10) (by omega);unfold mc at this⊢;rw[adU,this,wZ _ (by omega)];omega
def Ar:∀n:Nat,bq gF (aL n)=true:=by
 intro n;induction n using Nat.strongRecOn with
 |ind n ih=>
  rw[dY];by_cases h:n<10;·rw[Kw n h];intro x hx;rw[fC.1 hx];unfold gF;rw[wZ n h];simp;omega
  ·rw[Ky n h];intro x hx;rcases dy.1 hx with hx|hx;·exact dY.1 (ih _ (by omega)) x hx
   ·rw[fC.1 hx];unfold gF;rw[wZ _ (by omega)];simp;omega
def lU{s:ag}{n:Nat}:bz s=some n↔n<=1000000/\aL n=s:=by
 unfold bz;constructor
 ·intro h;split at h;·rename_i hc;cases h;exact hc
  ·cases h
 ·rintro ⟨h1,rfl⟩;rw[VK,ax ⟨h1,rfl⟩]
def oA(n:Nat)(h:n<=1000000):(aL n).length<=7:=p8 6 n (by omega)
def GJ(n:Nat)(h:n<=1000000):cy (n:Int)=aL n:=by unfold cy;rw[ax (by omega)];rfl
def MC(n:Nat)(h:n<=1000000):bz (cy n)=some n:=lU.2 ⟨h,(GJ n h).symm⟩
def agD(s:ag)(h:s.length<=7):bz s=if s≠[]/\bq gF s=true/\cy (mc s)=s then some (mc s) else none:=by
 cases hr:bz s with
 |some n=>obtain⟨h1,rfl⟩:=lU.1 hr;rw[VK,ax ⟨Kv n,Ar n,GJ n h1⟩]
 |none=>
  rw[aF];rintro ⟨h1,h2,h3⟩
  have:bz s=some (mc s):=by
   refine lU.2 ?_;unfold cy at h3;split at h3;·rename_i hc;exact⟨by omega,h3⟩
   ·exact absurd h3.symm h1
  rw[this] at hr;cases hr
def ahF:∀(n acc:Nat) (l:List UInt8),acc*10^Lib.nDigits n+n<10000000000->Lib.parseUint10 acc (aL n++l)=Lib.parseUint10 (acc*10^Lib.nDigits n+n) l:=by
 intro n;induction n using Nat.strongRecOn with
 |ind n ih=>
  intro acc l hn;by_cases h:n<10;·rw[Kw n h];simp only[fM,kI,Lib.parseUint10,wZ n h];rw[Lib.nDigits_small h] at hn⊢;rw[ax (by omega),aF (by omega),aF (by omega)];congr 1;omega
  ·rw[Ky n h,mz];have e:=Lib.nDigits_big h;rw[e,Jj] at hn⊢;have hm:acc*(10^Lib.nDigits (n / 10)*10)=acc*10^Lib.nDigits (n / 10)*10:=by rw[Nat.mul_assoc]
   rw[hm] at hn⊢;rw[ih (n / 10) (by omega) acc _ (by omega)];have hd:=wZ (n%10) (by omega);simp only[fM,kI,Lib.parseUint10,hd];rw[ax (by omega),aF (by omega),aF (by omega)];congr 1;omega
def PS(n:Nat)(h:n<=1000000):Lib.atoiAll (aL n)=.ok (n:Int):=by
 cases hd:aL n with
 |nil=>exact absurd hd (Kv n)
 |cons c r=>have hc:=dY.1 (Ar n) c (by rw[hd];exact bD ..);simp only[gF,bp] at hc;rw[Lib.atoiAll_plain c r (by omega) (by omega),<-hd];unfold Lib.parseMag;rw[aF (Kv n)];have:=ahF n 0 [] (by omega);rw[lz] at this;rw[this];simp only[Lib.parseUint10,Lib.signless];rw[aF (by omega)];simp
def agC(s:ag)(n:Int)(h:Lib.atoiAll s=.ok n):(if 0<=n/\n<=1000000/\Lib.itoa n=s then some n.toNat else none)=bz s:=by
 split;·rename_i hc;symm;refine lU.2 ⟨by omega,?_⟩;rw[<-L8,<-hc.2.2];congr 1;omega
 ·rename_i hc;cases hr:bz s with
  |none=>rfl
  |some m=>
   obtain⟨h1,rfl⟩:=lU.1 hr;rw[PS m h1] at h;obtain rfl:(m:Int)=n:=by injection h
   exact absurd ⟨by omega,by omega,L8 m⟩ hc
def agE(s:ag)(h:∀n,Lib.atoiAll s≠.ok n):bz s=none:=by
 cases hr:bz s with
 |none=>rfl
 |some m=>obtain⟨h1,rfl⟩:=lU.1 hr;exact absurd (PS m h1) (h m)
def T6(s:ag)(h:7<s.length):bz s=none:=by
 cases hr:bz s with
 |none=>rfl
 |some m=>obtain⟨h1,rfl⟩:=lU.1 hr;have:=oA m h1;omega
def bA(c:UInt8):ag->List ag
 |[]=>[[]]
 |b::s=>if b=c then []::bA c s else match bA c s with
  |w::ws=>(b::w)::ws
  |[]=>[[b]]
def zm(c:UInt8)(s:ag):bA c s≠[]:=by
 cases s with
 |nil=>simp[bA]
 |cons b s=>
  unfold bA;split;·simp
  ·split<;>simp
def jE(s:ag):List ag:=((bA 44 s).map gw).filter λw=>decide (w≠[])
end M
namespace M
open Go Go.RowKit
def pV(w w':World)(c:C):Prop:=(∀Z,c.ok w' Z)/\c.bare/\∀b k,c.fp b k->w.heap.size<=b
def Yu[Bs]{P:Program}{f:FuncId}{xs:List X}{r:X}
  (h:∀w zl zb cs,cs.map C.er=xs->ry w zl zb cs->ox w->Calls P f (cs.map C.val).toArray w λe w'=>∃c:C,e=.returned c.val/\c.er=r/\Below w.heap.size w w'/\pV w w' c):
  AC P f xs λr' ps=>r'=r/\ps=xs.map λ_=>.dead:=by
 intro w zl zb cs e hA mJ;refine(h w zl zb cs e hA λb hb=>(mJ b hb).1).mono λe' w' ⟨c,he,hc,hb,c1,c2,c3⟩=>?_;have Ld:Ext (λb k=>∃x∈cs,x.fp b k) w w':=⟨hb.os,hb.tape,hb.output,hb.size,λb hl=>.inl (hb.block b hl)⟩;refine⟨c,cs.map λx=>.dead x.val,zl,⟨he,by rw[cP];rfl,Ld,⟨λx hx'=>?_,λx hx'=>?_,λx hx' b k hf=>?_,λb k hz=>lg (hA.cJ b k (hz.imp id λh=>h.elim)) hb.size,?_⟩,λx hx' b k hf=>?_,λ_ _ h=>h,λ_ _ h=>.inl h⟩,hc,?_⟩
 ·rcases b9.1 hx' with rfl|hx';·exact c1 _
  ·obtain⟨y,_,rfl⟩:=bw.1 hx';trivial
 ·rcases b9.1 hx' with rfl|hx';·exact c2
  ·obtain⟨y,_,rfl⟩:=bw.1 hx';trivial
 ·rcases b9.1 hx' with rfl|hx';·have h1:=c3 b k hf;exact⟨λhz=>by have:=hA.cJ b k (.inl hz);omega,λhz=>hz⟩
  ·obtain⟨y,_,rfl⟩:=bw.1 hx';exact hf.elim
 ·refine fh.2 ⟨λx hx b k hf hf'=>?_,?_⟩;·obtain⟨y,_,rfl⟩:=bw.1 hx;exact hf'
  ·refine q7.2 λi j hi hj _ b k hf=>?_;obtain⟨y,_,hy⟩:=bw.1 (cq hi);rw[<-hy] at hf;exact hf.elim
 ·rcases b9.1 hx' with rfl|hx';·exact .inr (c3 b k hf)
  ·obtain⟨y,_,rfl⟩:=bw.1 hx';exact hf.elim
 ·rw[<-e];simp[cP,Jo,C.er]
def ez(f0:FuncId)(g:List X->Option X):cE:=λf xs=>if f=f0 then (match g xs with
 |some r=>some (r,xs.map λ_=>.dead)
 |none=>none) else none
def vj[Bs]{P:Program}{f0:FuncId}{g:List X->Option X}
  (h:∀xs r,g xs=some r->∀w zl zb cs,cs.map C.er=xs->ry w zl zb cs->ox w->Calls P f0 (cs.map C.val).toArray w λe w'=>∃c:C,e=.returned c.val/\c.er=r/\Below w.heap.size w w'/\pV w w' c):(ez f0 g).Sound P:=λf xs o e=>by
 unfold ez at e;split at e
 ·rename_i hf;subst hf;split at e;·rename_i r hr;cases e;exact Yu (h xs r hr)
  ·cases e
 ·cases e
def uz{c:C}{s:ByteArray}(h:c.er=.str s):c=.str s:=by cases c<;>simp[C.er] at h;rw[h]
def map_nil{l:List C}(h:l.map C.er=[]):l=[]:=by simpa using h
def map_cons{l:List C}{x:X}{xs:List X}(h:l.map C.er=x::xs):∃c cs,l=c::cs/\c.er=x/\cs.map C.er=xs:=by
 cases l with
 |nil=>simp at h
 |cons c cs=>simp at h;exact⟨c,cs,rfl,h.1,h.2⟩
def uC{w w':World}{s:ByteArray}(h:s.size<=9223372036854775807):pV w w' (.str s):=⟨λ_=>h,trivial,λ_ _ h=>h.elim⟩
def adV{w w':World}{k:IntKind}{n:Int}:pV w w' (.int k n):=⟨λ_=>trivial,trivial,λ_ _ h=>h.elim⟩
def KT{w w':World}{b:Bool}:pV w w' (.bool b):=⟨λ_=>trivial,trivial,λ_ _ h=>h.elim⟩
def Dy(l:List C):C:=.av l.length λj=>l.getD j (.dead undef)
def MO{α β:Type}(l:List α)(d:α)(g:α->β):((List.range l.length).map λj=>g (l.getD j d))=l.map g:=by
 apply List.ext_getElem;·simp
 ·intro i h1 h2;simp at h1;simp[h1]
def VE(l:List C):(Dy l).er=.av (l.map C.er):=by show X.av _=_;rw[MO l _ C.er]
def VF(l:List C):(Dy l).val=.tuple (l.map C.val).toArray:=by show Value.tuple _=_;rw[MO l _ C.val]
def R5{w w':World}{l:List C}(h:∀c∈l,pV w w' c/\c.gi/\∀b k,¬c.fp b k):pV w w' (Dy l):=by
 have hm:∀j,j<l.length->l.getD j (.dead undef)∈l:=λj hj=>by simp[List.getD,hj]
 refine⟨λZ=>⟨λj hj=>⟨(h _ (hm j hj)).2.1,(h _ (hm j hj)).1.1 Z⟩,λj hj b k hf=>((h _ (hm j hj)).2.2 b k hf).elim⟩,λj hj=>(h _ (hm j hj)).1.2.1,λb k hf=>?_⟩;obtain⟨j,hj,hf⟩:=hf;exact((h _ (hm j hj)).2.2 b k hf).elim
def adW{w w':World}{g:Nat}{t:TypeId}{l:List ByteArray}(hg:w.heap.size<=g)(hb:w'.heap[g]?=some (.cells (l.map Value.string).toArray t (0,0)))(hs:∀s∈l,s.size<=9223372036854775807):
  pV w w' (.row .own 1 (some (g,0,none)) l.length l.length λi _=>.str (l.getD i ByteArray.empty)):=by
 have hm:∀j,j<l.length->l.getD j ByteArray.empty∈l:=λj hj=>by simp[List.getD,hj]
 refine⟨λZ=>⟨ek _,λi j hi hj=>⟨g,0,rfl,?_,λh=>absurd rfl h⟩,λi j hi hj=>⟨trivial,trivial,trivial,hs _ (hm i hi)⟩,λ_=>.inr ⟨g,0,_,t,(0,0),rfl,hb,?_,λk _ _=>?_⟩,λi j hi hj b k hf=>hf.elim⟩,trivial,λb k hf=>?_⟩
 ·obtain rfl:j=0:=by omega
  simp only[World.cell?,hb];simp[C.val,hi,Go.Value.oneCell']
 ·simp
 ·simp[World.frozen?,hb]
 ·obtain⟨_,h|⟨i,j,_,_,h⟩⟩:=hf;·obtain⟨o,h⟩:=h;have hgb:=dz Prod.fst (iL h);have hgb:g=b:=hgb;exact hgb▸hg
  ·exact h.elim
def ah8(l:List ByteArray)(g cap:Nat):(C.row .own 1 (some (g,0,none)) l.length cap λi _=>.str (l.getD i ByteArray.empty)).er=.row .own 1 (l.map λs=>[.str s]):=by show X.row _ _ _=_;congr 1;have:=MO l ByteArray.empty λs=>[X.str s];rw[<-this];rfl
def Rz{c:C}{m:Md}{z:Nat}{xs:List (List X)}(h:c.er=.row m z xs):∃A len cap e,c=.row m z A len cap e/\len=xs.length/\∀i,i<len->xs[i]?=some ((List.range z).map λj=>(e i j).er):=by
 cases c with
 |row m' z' A len cap e=>simp only[C.er,X.row.injEq] at h;obtain⟨rfl,rfl,h⟩:=h;refine⟨A,len,cap,e,rfl,by rw[<-h];simp,λi hi=>?_⟩;rw[<-h];simp[hi]
 |_=>simp[C.er] at h
end M
namespace M
open Go
def pL(s:ag):X:=.str ⟨s.toArray⟩
def GX(l:List ag):X:=.row .own 1 (l.map eS)
def IQ:List X->Option X
 |[.str s,.str c]=>if c.data.toList=[32]/\s.size<=9223372036854775807 then some (pL (gw s.data.toList)) else none
 |_=>none
def Dm:List X->Option X
 |[.str s,.str c]=>if s.size<4294967281/\1<=c.size then some (GX (Lib.split s.data.toList c.data.toList)) else none
 |_=>none
def EM:List X->Option X
 |[.str s,.str c]=>if s.size<4294967281 then some (.av [pL (Lib.cut s.data.toList c.data.toList).1,pL (Lib.cut s.data.toList c.data.toList).2.1,.bool (Lib.cut s.data.toList c.data.toList).2.2]) else none
 |_=>none
def Fs:List X->Option X
 |[.str s,.str c]=>some (.bool (Lib.hasPrefix s.data.toList c.data.toList))
 |_=>none
def GI:List X->Option X
 |[.str s]=>if s.size<=9223372036854775807 then some (match bz s.data.toList with
  |some n=>.av [.int .i64 n,.bool true]
  |none=>.av [.int .i64 0,.bool false]) else none
 |_=>none
def rY(f:aK):ag:=f.name++[58,32]++f.value++[13,10]
def jo(l:List aK):ag:=l.flatMap rY
def r8:List (List X)->Option (List aK)
 |[]=>some []
 |[.str a,.str b]::r=>(r8 r).map λl=>⟨a.data.toList,b.data.toList⟩::l
 |_=>none
def E1:List X->Option X
 |[.row .af 2 rows]=>(match r8 rows with
  |some l=>if (jo l).length<=140737488355328/\l.length<=140737488355328 then some (pL (jo l)) else none
  |none=>none)
 |_=>none
def RX:∀l:List aK,r8 (l.map aS)=some l
 |[]=>rfl
 |f::l=>by simp[r8,RX l]
def strsOf:List (List X)->Option (List ag)
 |[]=>some []
 |[.str a]::r=>(strsOf r).map λl=>a.data.toList::l
 |_=>none
def Vk:∀l:List ag,strsOf (l.map eS)=some l
 |[]=>rfl
 |f::l=>by simp[strsOf,Vk l]
def Gr:List X->Option X
 |[.row .af 1 rows,.str sep]=>(match strsOf rows with
  |some l=>if (Lib.join l sep.data.toList).length<=140737488355328/\l.length<=140737488355328 then some (pL (Lib.join l sep.data.toList)) else none
  |none=>none)
 |_=>none
def count_nil(c:UInt8):Lib.count [] [c]=0:=by rw[Lib.count_one];rfl
def aiK(c:UInt8):∀s:ag,Lib.split s [c]=bA c s:=by
 have key:∀(n:Nat) (s:ag),s.length<=n->Lib.splitK [c] 0 (Lib.count s [c]) s=bA c s:=by
  intro n;induction n with
  |zero=>intro s hs;obtain rfl:s=[]:=Jx.1 (by omega);rw[count_nil];rfl
  |succ n ih=>
   intro s hs;cases s with
   |nil=>rw[count_nil];rfl
   |cons b s=>
    simp at hs;have Gm:=ih s (by omega);by_cases hb:b=c;·subst hb;rw[Lib.count_cons_eq,oh];have hi:Lib.index (b::s) [b]=0:=Lib.index_first (i:=0) (oq _) (by simp[Lib.occAt]) (λ_ h=>absurd h (Nat.not_lt_zero _));simp only[Lib.splitK,hi,bA];simp[Gm]
    ·rw[Lib.count_cons_ne _ _ _ hb]
     have hnext:Lib.index (b::s) [c]=if Lib.index s [c]=-1 then -1 else Lib.index s [c]+1:=by
      have h:=Lib.index_drop (s:=b::s) (sub:=[c]) (i:=1) (λj hj=>by
       obtain rfl:j=0:=by omega
       simp[Lib.occAt,List.isPrefixOf,wC hb]) (by simp)
      simp at h;exact h
     rw[bA,aF hb,<-Gm];cases hk:Lib.count s [c] with
     |zero=>simp[Lib.splitK]
     |succ k=>
      simp only[Lib.splitK,hnext];by_cases h1:Lib.index s [c]=-1;·simp[h1]
      ·have h0:0<=Lib.index s [c]:=by have:-1<=Lib.index s [c]:=Lib.index_ge _ _;omega
       have h2:¬Lib.index s [c]+1=-1:=by omega
       have h3:(Lib.index s [c]+1).toNat=(Lib.index s [c]).toNat+1:=by omega
       simp[h1,h2,h3]
 intro s;exact key s.length s (ek _)
def cF(c:UInt8):ag->Option (ag×ag)
 |[]=>none
 |b::s=>if b=c then some ([],s) else (cF c s).map λp=>(b::p.1,p.2)
def afj(b c:UInt8)(s:ag):Lib.index (b::s) [c]=if b=c then 0 else if Lib.index s [c]=-1 then -1 else Lib.index s [c]+1:=by
 by_cases hb:b=c;·subst hb;rw[ax rfl];exact Lib.index_first (i:=0) (oq _) (by simp[Lib.occAt]) (λ_ h=>absurd h (Nat.not_lt_zero _))
 ·rw[aF hb]
  have h:=Lib.index_drop (s:=b::s) (sub:=[c]) (i:=1) (λj hj=>by
   obtain rfl:j=0:=by omega
   simp[Lib.occAt,List.isPrefixOf,wC hb]) (by simp)
  simp at h;exact h
def EO(c:UInt8):∀s:ag,Lib.cut s [c]=match cF c s with
  |some p=>(p.1,p.2,true)
  |none=>(s,[],false)
 |[]=>rfl
 |b::s=>by
  have ih:=EO c s;have h0:-1<=Lib.index s [c]:=Lib.index_ge _ _;unfold Lib.cut at ih⊢;rw[afj,cF];by_cases hb:b=c;·simp[hb]
  ·simp only[hb,dQ];by_cases h1:Lib.index s [c]=-1
   ·rw[h1] at ih;simp only[h1];cases hc:cF c s with
    |none=>simp
    |some p=>rw[hc] at ih;simp at ih
   ·have h2:0<=Lib.index s [c]:=by omega
    rw[ax h2] at ih;rw[aF h1,ax (by omega)];have h3:(Lib.index s [c]+1).toNat=(Lib.index s [c]).toNat+1:=by omega
    cases hc:cF c s with
    |none=>rw[hc] at ih;simp at ih
    |some p=>rw[hc] at ih;simp at ih;simp[h3,<-ih.1,<-ih.2]
end M
namespace M
open Go
def eE{β:Type}(p:β->Bool)(l:List β):Nat:=(l.takeWhile λb=> !p b).length
def TO{β:Type}{f:ah->cB}(l:List β)(st:Nat->ah)(p:β->Bool)(E:Nat->ah){x:Nat}
  (h:∀i b,l[i]?=some b->i<l.length->f (st i)=if p b=true then some (.exit x,E i) else some (.normal,st (i+1)))
  (hend:f (st l.length)=some (.exit x,E l.length)):aI f (st 0)=some (.exit x,E (eE p l)):=by
 suffices H:∀(r:List β) (i:Nat),l.drop i=r->i<=l.length->aI f (st i)=some (.exit x,E (i+eE p r)) by have:=H l 0 rfl (oq _);rwa [nq] at this
 intro r;induction r with
 |nil=>
  intro i hr hi;have:i=l.length:=by have:=dz List.length hr;simp at this;omega
  subst this;rw[cW,hend];rfl
 |cons b r ih=>
  intro i hr hi;have hb:l[i]?=some b:=by have:=dz (λt:List β=>t[0]?) hr;simpa using this
  have hlt:i<l.length:=(aJ.1 hb).1;have hd:l.drop (i+1)=r:=by have:=dz List.tail hr;simpa using this
  rw[cW,h i b hb hlt];unfold eE;by_cases hp:p b=true;·simp[hp,fB]
  ·have:=ih (i+1) hd hlt;simp only[hp];have e:i+1+eE p r=i+(eE p r+1):=by omega
   rw[e] at this;simp[hp,fB,this,eE]
def IX{β:Type}(p:β->Bool)(l:List β):eE p l<=l.length:=by unfold eE;exact(List.takeWhile_sublist _).length_le
def VJ{β:Type}(p:β->Bool):∀(l:List β) (j:Nat) (b:β),j<eE p l->l[j]?=some b->p b=false
 |[],j,b,h,_=>by simp[eE] at h
 |a::l,j,b,h,hb=>by
  unfold eE at h;rw[WD] at h;by_cases hp:p a=true;·simp[hp] at h
  ·simp only[hp,O3,dh,cw] at h;cases j with
   |zero=>simp at hb;subst hb;simpa using hp
   |succ j=>exact VJ p l j b (by unfold eE;omega) (by simpa using hb)
def VI{β:Type}(p:β->Bool):∀(l:List β) (b:β),l[eE p l]?=some b->p b=true
 |[],b,h=>by simp at h
 |a::l,b,h=>by
  unfold eE at h;rw[WD] at h;by_cases hp:p a=true;·simp[hp] at h;subst h;exact hp
  ·simp only[hp,O3,dh,cw,Jv] at h;exact VI p l b h
def gb(c:UInt8)(f:ag->List ag)(s:ag)(i:Nat)(g:List ag×Nat)(b:Option UInt8):List ag×Nat:=match b with
 |some b=>if b=c then (g.1++f ((s.take i).drop g.2),i+1) else g
 |none=>(g.1++f ((s.take i).drop g.2),i+1)
def Dk(c:UInt8):∀(cur rest:ag),(∀b∈cur,b≠c)->bA c (cur++rest)=match bA c rest with
  |w::ws=>(cur++w)::ws
  |[]=>[cur]
 |[],rest,_=>by
  cases h:bA c rest with
  |nil=>exact absurd h (zm c rest)
  |cons w ws=>simpa using h
 |a::cur,rest,h=>by rw[fM,bA,aF (h a (bD ..)),Dk c cur rest λb hb=>h b (bY _ hb)];cases bA c rest<;>simp
def Dl(c:UInt8)(cur:ag)(h:∀b∈cur,b≠c):bA c cur=[cur]:=by have:=Dk c cur [] h;simpa [bA] using this
def N5:∀(p cur rest:ag),((p++(cur++rest)).take (p.length+cur.length)).drop p.length=cur
 |[],cur,rest=>by simp
 |a::p,cur,rest=>by have:=N5 p cur rest;simp only[cw,fM,show p.length+1+cur.length=p.length+cur.length+1 by omega,WE,List.drop_succ_cons];exact this
def R1(c:UInt8)(f:ag->List ag)(s:ag):foldI (gb c f s) 0 (s.map some++[none]) ([],0)=((bA c s).flatMap f,s.length+1):=by
 suffices H:∀(rest p cur:ag) (out:List ag),s=p++cur++rest->(∀b∈cur,b≠c)->foldI (gb c f s) (p.length+cur.length) (rest.map some++[none]) (out,p.length)=(out++(bA c (cur++rest)).flatMap f,s.length+1) by have:=H s [] [] [] rfl (by simp);simpa using this
 intro rest;induction rest with
 |nil=>intro p cur out hs hc;simp only[lz] at hs⊢;rw[Dl c cur hc];subst hs;have e1:=N5 p cur [];rw[lz] at e1;simp[foldI,gb,e1]
 |cons b rest ih=>
  intro p cur out hs hc;simp only[bn,fM,foldI];by_cases hb:b=c
  ·subst hb;have e1:(s.take (p.length+cur.length)).drop p.length=cur:=by subst hs;have:=N5 p cur (b::rest);rwa [<-mz] at this
   have:=ih (p++cur++[b]) [] (out++f cur) (by simp[hs]) (by simp);simp only[eu,cw,gA,kI] at this;simp only[gb,dh,e1];rw[show p.length+cur.length+1=p.length+cur.length+(0+1)+0 by omega,this,Dk b cur (b::rest) hc];simp[bA]
  ·have:=ih p (cur++[b]) out (by simp[hs]) (by
    intro x hx;rcases dy.1 hx with hx|hx;·exact hc x hx
    ·rw[fC.1 hx];exact hb)
   simp only[eu,cw,gA] at this;simp only[gb,hb,dQ];rw[show p.length+cur.length+1=p.length+(cur.length+(0+1)) by omega,this];simp
def VX(s:ag):jE s=(bA 44 s).flatMap λw=>if gw w≠[] then [gw w] else []:=by
 unfold jE;induction bA 44 s with
 |nil=>rfl
 |cons w l ih=>simp only[bn,Pa,jV,<-ih];by_cases h:gw w=[]<;>simp[h]
@[simp] def aoi(l:List UInt8):l.map (λb:UInt8=>[X.int IntKind.u8 (b.toNat:Int)])=l.map eU:=rfl
@[simp] def aqm(l:List UInt8):qX (l.map eU)=some l:=Oi l
def N4(c:UInt8):∀s:ag,((bA c s).map List.length).sum+(bA c s).length=s.length+1
 |[]=>rfl
 |b::s=>by
  have:=N4 c s;unfold bA;split;·simp;omega
  ·cases h:bA c s with
   |nil=>exact absurd h (zm c s)
   |cons w ws=>rw[h] at this;simp at this⊢;omega
def Ve(c:UInt8)(s:ag):(bA c s).length<=s.length+1:=by have:=N4 c s;omega
def pK(c:UInt8)(s:ag):∀w∈bA c s,w.length<=s.length:=by
 intro w hw;have h:=N4 c s
 have h1:w.length+1<=((bA c s).map List.length).sum+(bA c s).length:=by
  clear h;revert hw;generalize bA c s=l;intro hw;induction l with
  |nil=>cases hw
  |cons x l ih=>
   rcases b9.1 hw with rfl|hw;·simp;omega
   ·have:=ih hw;simp;omega
 omega
def TP(b:UInt8)(h:65<=b.toNat/\b.toNat<=90):(b+32).toNat=b.toNat+32:=by rw[UInt8.toNat_add];have:(32:UInt8).toNat=32:=rfl;omega
def VZ{n:Int}(h1:0<=n)(h2:n<256):IntKind.u8.wrap n=n:=Ot h1 h2
end M
namespace M
def E6{β γ:Type}(φ:β->List γ)(hφ:∀b,(φ b).length<=1)(l:List β)(i:Nat):((l.take i).flatMap φ).length<=i:=by
 induction l generalizing i with
 |nil=>simp
 |cons b l ih=>
  cases i with
  |zero=>simp
  |succ i=>have:=ih i;have:=hφ b;simp only[WE,jV,eu];omega
end M
namespace M
@[simp] def anp(i:Nat):((i:Int)<0)=False:=by simp
end M
namespace M
def jR{α:Type}(f:α->α)(l:List α)(i:Nat):List α:=(l.take i).map f++l.drop i
@[simp] def apg{α:Type}(f:α->α)(l:List α)(i:Nat):(jR f l i).length=l.length:=by simp[jR];omega
def af7{α:Type}(f:α->α)(l:List α):jR f l 0=l:=by simp[jR]
def af3{α:Type}(f:α->α)(l:List α):jR f l l.length=l.map f:=by simp[jR]
def af4{α:Type}(f:α->α)(l:List α)(i:Nat)(h:i<l.length):(jR f l i)[i]?=some l[i]:=by
 unfold jR;rw[iM (by simp;omega)];have:i - ((l.take i).map f).length=0:=by simp;omega
 rw[this];simp[h]
def af5{α:Type}(f:α->α)(l:List α)(i:Nat)(h:i<l.length)(h':i<(jR f l i).length):(jR f l i)[i]=l[i]:=by have:=af4 f l i h;rw[cz h'] at this;exact iL this
def af6{α:Type}(f:α->α)(l:List α)(i:Nat)(h:i<l.length):(jR f l i).set i (f l[i])=jR f l (i+1):=by
 unfold jR;rw[DM _ _ (by simp;omega),nr h];have:i - ((l.take i).map f).length=0:=by simp;omega
 rw[this,pQ h];simp only[DN,jg,bn,jh,mz,fM,kI]
end M
namespace M
@[simp] def af9(m:Md):∀(i:Nat) (l:List (List X)),X.bT m (l.take i)=(X.bT m l).take i
 |0,l=>by simp[X.bT]
 |i+1,[]=>by simp[X.bT]
 |i+1,a::l=>by simp[X.bT,af9 m i l]
@[simp] def af8(m:Md):∀(i:Nat) (l:List (List X)),X.bT m (l.drop i)=(X.bT m l).drop i
 |0,l=>by simp
 |i+1,[]=>by simp[X.bT]
 |i+1,a::l=>by simp[X.bT,af8 m i l]
end M
namespace M
open Go
abbrev dK:ag:=[99,111,110,116,101,110,116,45,108,101,110,103,116,104]
abbrev yb:ag:=[99,97,99,104,101,45,99,111,110,116,114,111,108]
abbrev ju:ag:=[118,97,114,121]
def VV{α:Type}{w:α->Nat}{l:List α}{i:Nat}(h:i<l.length):w l[i]<=wL w l:=q5 (cq h)
def zy{l:List ag}{a:ag}(h:a∈l):a.length<=wL wS l:=q5 (w:=wS) h
def I0{l:List aK}{a:aK}(h:a∈l):a.name.length+a.value.length<=wL aP l:=q5 (w:=aP) h
def fo(fs:List aK)(n:ag):Option (Nat×aK):=cL (λf=>decide (f.name=n)) 0 fs
def fY(o:Option (Nat×aK)):Int:=o.elim (-1) λx=>(x.1:Int)
def dW(fs:List aK)(n:ag):Option ag:=(fo fs n).map λx=>x.2.value
def JN{fs:List aK}{n:ag}{i:Nat}{f:aK}(h:fo fs n=some (i,f)):∃hi:i<fs.length,fs[i]=f/\f.name=n:=by obtain⟨_,h2,h3⟩:=qa h;simp at h2 h3;obtain⟨hi,e⟩:=aJ.1 h2;exact⟨hi,e,h3⟩
def uE(fs:List aK)(n:ag):((dW fs n).getD []).length<=wL aP fs:=by
 unfold dW;cases h:fo fs n with
 |none=>simp
 |some x=>obtain⟨i,f⟩:=x;obtain⟨hi,rfl,_⟩:=JN h;have:=I0 (cq hi);simp;omega
def jJ(fs:List aK)(x:aK×Nat):Bool:=dX x.1.name && fU x.1.value && decide (fY (fo fs x.1.name)=x.2) && !decide (x.1.name=dK)
def j9(fs:List aK):Bool:=bq (jJ fs) fs.zipIdx && decide ((fs.length:Int)<=8)
def sZ(fs:List aK)(n v:ag):List aK:=match fo fs n with
 |some x=>fs.set x.1 ⟨x.2.name,v⟩
 |none=>fs++[⟨n,v⟩]
def Vn{α:Type}(w:α->Nat):∀(l:List α) (i:Nat) (a:α) (h:i<l.length),((l.set i a).map w).sum+w l[i]=(l.map w).sum+w a
 |b::l,0,a,_=>by simp;omega
 |b::l,i+1,a,h=>by have:=Vn w l i a (by simpa using h);simp at this⊢;omega
def UA(fs:List aK)(n v:ag):wL aP (sZ fs n v)<=wL aP fs+n.length+v.length+1:=by
 unfold sZ;cases h:fo fs n with
 |none=>simp[wL,aP];omega
 |some x=>obtain⟨i,f⟩:=x;obtain⟨hi,rfl,h3⟩:=JN h;have:=Vn aP fs i ⟨fs[i].name,v⟩ hi;simp only[wL,Jd];simp only[aP] at this⊢;omega
def ahR(fs:List aK)(n v:ag):(sZ fs n v).length<=fs.length+1:=by
 unfold sZ;cases h:fo fs n with
 |none=>simp
 |some x=>simp
def fy(r:bU):Bool:=decide (100<=r.status/\r.status<=599) && j9 r.fields && decide ((r.body.length:Int)<=120)
def yo(q:Rq):Bool:=decide (1<=q.method/\q.method<=4) && ij q.path && j9 q.fields && decide ((q.body.length:Int)<=120)
def dB(fs:List aK):List ag:=(jE ((dW fs ju).getD [])).map cK
def nS(l:List ag):Bool:=bq dX l && decide ((l.length:Int)<=4)
def dw(o:Ob):Bool:=fy o.resp && ij o.path && decide (0<=o.t/\o.t<=1000000) && nS o.names && decide (o.names=dB o.resp.fields) && decide (o.values.length=o.names.length) && bq fU o.values
def dn(b:Bn):Bool:=decide (0<=b.t/\b.t<=1000000) && (if b.kind=1\/b.kind=2 then ij b.a && decide (b.b=[]) else if b.kind=3 then dX b.a && fU b.b else false)
def iT(b:Bn)(o:Ob):Bool:=decide (o.t<=b.t) && dn b && dw o && (if b.kind=1 then decide (o.path=b.a) else if b.kind=2 then b.a.isPrefixOf o.path else decide (dW o.resp.fields b.a=some b.b))
def fu(l:List Bn)(o:Ob):Bool:=l.any λb=>iT b o
def nU(w:Wr):Bool:=decide (0<=w.at_/\w.at_<=19)
def cg(d:aV):Bool:=bq nU d.pending && decide ((d.cells.length:Int)=20) && decide ((d.pending.length:Int)<=16)
def kD(l:List Kp)(i:Nat):Int:=if i=0 then 0 else (l[i - 1]?.map λk=>k.seq).getD 0
def oL(S:Int)(l:List Kp)(x:Kp×Nat):Bool:=dw x.1.obj && decide (5<=x.1.at_/\x.1.at_<=19) && bq (λy=>decide ¬y.at_=x.1.at_) (l.take x.2) && decide (kD l x.2<x.1.seq) && decide (x.1.seq<S)
def lS(S:Int)(l:List Kp)(x:Kp×Nat):Bool:=dw x.1.obj && decide (5<=x.1.at_/\x.1.at_<=19) && decide (1<=x.1.seq/\x.1.seq<=S - 1) && decide (x.2=0\/kD l x.2<x.1.seq) && bq (λy=>decide ¬y.at_=x.1.at_) (l.take x.2)
def oT(S:Int)(l:List Kp):Bool:=bq (oL S l) l.zipIdx
def Cj(l:List Kp)(i:Nat)(h:i<l.length):kD l (i+1)=l[i].seq:=by simp[kD,h]
def afJ(S:Int)(l:List Kp):bq (lS S l) l.zipIdx=oT S l:=by
 unfold oT;rw[O0,dY,dY];have hm:∀x∈l.zipIdx,∃h:x.2<l.length,x.1=l[x.2]:=λx hx=>by obtain⟨i,hi,rfl⟩:=tT hx;simp at hi;exact⟨by simpa using hi,by simp⟩
 have hz:∀i (h:i<l.length),(l[i],i)∈l.zipIdx:=λi h=>by
  have:(l.zipIdx)[i]'(by simpa using h)=(l[i],i):=by simp
  rw[<-this];exact cq _
 constructor
 ·intro h x hx;have h1:=h x hx;simp only[lS,oL,aB,bp] at h1⊢;obtain⟨⟨⟨⟨a,b⟩,c⟩,d⟩,e⟩:=h1;refine⟨⟨⟨⟨a,b⟩,e⟩,?_⟩,by omega⟩;rcases d with d|d;·rw[d];have:kD l 0=0:=rfl;omega
  ·exact d
 ·intro h
  have pos:∀i (hi:i<l.length),1<=l[i].seq:=by
   intro i;induction i with
   |zero=>intro hi;have h1:=h _ (hz 0 hi);simp only[oL,aB,bp] at h1;have:kD l 0=0:=rfl;omega
   |succ i ih=>intro hi;have h1:=h _ (hz (i+1) hi);simp only[oL,aB,bp] at h1;have h2:=Cj l i (by omega);have h3:=ih (by omega);omega
  intro x hx;have h1:=h x hx;obtain⟨hl,e⟩:=hm x hx;have h2:=pos x.2 hl;rw[<-e] at h2;simp only[lS,oL,aB,bp] at h1⊢;obtain⟨⟨⟨⟨a,b⟩,c⟩,d⟩,f⟩:=h1;exact⟨⟨⟨⟨a,b⟩,by omega⟩,.inr d⟩,c⟩
def RN{β:Type}(p:β->Bool):∀(l:List β) (k:Nat),(cL p k l).isSome= !bq (λb=> !p b) l
 |[],_=>rfl
 |b::l,k=>by
  unfold cL bq;by_cases h:p b=true;·simp[h]
  ·have:=RN p l (k+1);unfold bq at this;simp[h,this]
def qY{l:List Kp}{k:Kp}(h:k∈l):bG k.obj<=wL aX l:=q5 (w:=aX) h
def IZ{l:List Bn}{b:Bn}(h:b∈l):aO b<=wL aO l:=q5 (w:=aO) h
def cG(s:Sh):Bool:=cg s.aD && decide ((s.ay.length:Int)<=5) && decide (5<=s.next/\s.next<=19) && decide (1<=s.seq/\s.seq<=100000) && bq dn s.ay && oT s.seq s.ai
end M
namespace M
open Go
def gd(_:Int)(k:Int):Int:=k
def eL(_:ag)(k:Int):ag:=B4 k
def TV(_:Bool)(k:Int):Bool:=decide (k.tmod 3=0)
def bK{α:Type}(_:α):Nat:=1
def ef{α:Type}(mk:α->Int->α)(n:α->Nat):List α->Int->List α
 |[],_=>[]
 |a::l,k=>mk a k::ef mk n l (k+(n a:Nat))
def nL{α:Type}(n:α->Nat)(l:List α):Nat:=(l.map n).sum
@[simp] def agf{α:Type}(mk:α->Int->α)(n:α->Nat):∀(l:List α) (k:Int),(ef mk n l k).length=l.length
 |[],_=>rfl
 |a::l,k=>by simp[ef,agf mk n l]
def oP(a:aK)(k:Int):aK:=⟨eL a.name (k),eL a.value (k+1)⟩
def bF(a:aK):Nat:=2
def agm(a:Wr)(k:Int):Wr:=⟨gd a.at_ (k),eL a.text (k+1)⟩
def Q6(a:Wr):Nat:=2
def agj(a:Kp)(k:Int):Kp:=⟨⟨eL a.obj.path (k),ef eL bK a.obj.names (k+1),ef eL bK a.obj.values (k+1+(nL bK a.obj.names:Nat)),⟨gd a.obj.resp.status (k+1+(nL bK a.obj.names:Nat)+(nL bK a.obj.values:Nat)),ef oP bF a.obj.resp.fields (k+1+(nL bK a.obj.names:Nat)+(nL bK a.obj.values:Nat)+1),eL a.obj.resp.body (k+1+(nL bK a.obj.names:Nat)+(nL bK a.obj.values:Nat)+1+(nL bF a.obj.resp.fields:Nat))⟩,gd a.obj.t (k+1+(nL bK a.obj.names:Nat)+(nL bK a.obj.values:Nat)+1+(nL bF a.obj.resp.fields:Nat)+1)⟩,gd a.at_ (k+1+(nL bK a.obj.names:Nat)+(nL bK a.obj.values:Nat)+1+(nL bF a.obj.resp.fields:Nat)+1+1),gd a.seq (k+1+(nL bK a.obj.names:Nat)+(nL bK a.obj.values:Nat)+1+(nL bF a.obj.resp.fields:Nat)+1+1+1)⟩
def Kr(a:Kp):Nat:=6+nL bK a.obj.names+nL bK a.obj.values+nL bF a.obj.resp.fields
def agh(a:Bn)(k:Int):Bn:=⟨gd a.kind (k),eL a.a (k+1),eL a.b (k+1+1),gd a.t (k+1+1+1)⟩
def Q4(a:Bn):Nat:=4
def agi(a:Fl)(k:Int):Fl:=⟨⟨gd a.q.method (k),eL a.q.path (k+1),ef oP bF a.q.fields (k+1+1),eL a.q.body (k+1+1+(nL bF a.q.fields:Nat))⟩,ef gd bK a.who (k+1+1+(nL bF a.q.fields:Nat)+1),⟨eL a.old.path (k+1+1+(nL bF a.q.fields:Nat)+1+(nL bK a.who:Nat)),ef eL bK a.old.names (k+1+1+(nL bF a.q.fields:Nat)+1+(nL bK a.who:Nat)+1),ef eL bK a.old.values (k+1+1+(nL bF a.q.fields:Nat)+1+(nL bK a.who:Nat)+1+(nL bK a.old.names:Nat)),⟨gd a.old.resp.status (k+1+1+(nL bF a.q.fields:Nat)+1+(nL bK a.who:Nat)+1+(nL bK a.old.names:Nat)+(nL bK a.old.values:Nat)),ef oP bF a.old.resp.fields (k+1+1+(nL bF a.q.fields:Nat)+1+(nL bK a.who:Nat)+1+(nL bK a.old.names:Nat)+(nL bK a.old.values:Nat)+1),eL a.old.resp.body (k+1+1+(nL bF a.q.fields:Nat)+1+(nL bK a.who:Nat)+1+(nL bK a.old.names:Nat)+(nL bK a.old.values:Nat)+1+(nL bF a.old.resp.fields:Nat))⟩,gd a.old.t (k+1+1+(nL bF a.q.fields:Nat)+1+(nL bK a.who:Nat)+1+(nL bK a.old.names:Nat)+(nL bK a.old.values:Nat)+1+(nL bF a.old.resp.fields:Nat)+1)⟩,TV a.Fq (k+1+1+(nL bF a.q.fields:Nat)+1+(nL bK a.who:Nat)+1+(nL bK a.old.names:Nat)+(nL bK a.old.values:Nat)+1+(nL bF a.old.resp.fields:Nat)+1+1)⟩
def Kq(a:Fl):Nat:=8+nL bF a.q.fields+nL bK a.who+nL bK a.old.names+nL bK a.old.values+nL bF a.old.resp.fields
def agl(a:Se)(k:Int):Se:=⟨⟨gd a.q.method (k),eL a.q.path (k+1),ef oP bF a.q.fields (k+1+1),eL a.q.body (k+1+1+(nL bF a.q.fields:Nat))⟩,⟨gd a.resp.status (k+1+1+(nL bF a.q.fields:Nat)+1),ef oP bF a.resp.fields (k+1+1+(nL bF a.q.fields:Nat)+1+1),eL a.resp.body (k+1+1+(nL bF a.q.fields:Nat)+1+1+(nL bF a.resp.fields:Nat))⟩,gd a.t (k+1+1+(nL bF a.q.fields:Nat)+1+1+(nL bF a.resp.fields:Nat)+1)⟩
def Q5(a:Se):Nat:=6+nL bF a.q.fields+nL bF a.resp.fields
def agk(a:Rp)(k:Int):Rp:=⟨gd a.client (k),⟨gd a.q.method (k+1),eL a.q.path (k+1+1),ef oP bF a.q.fields (k+1+1+1),eL a.q.body (k+1+1+1+(nL bF a.q.fields:Nat))⟩,⟨gd a.resp.status (k+1+1+1+(nL bF a.q.fields:Nat)+1),ef oP bF a.resp.fields (k+1+1+1+(nL bF a.q.fields:Nat)+1+1),eL a.resp.body (k+1+1+1+(nL bF a.q.fields:Nat)+1+1+(nL bF a.resp.fields:Nat))⟩,gd a.kind (k+1+1+1+(nL bF a.q.fields:Nat)+1+1+(nL bF a.resp.fields:Nat)+1),gd a.t (k+1+1+1+(nL bF a.q.fields:Nat)+1+1+(nL bF a.resp.fields:Nat)+1+1),⟨eL a.obj.path (k+1+1+1+(nL bF a.q.fields:Nat)+1+1+(nL bF a.resp.fields:Nat)+1+1+1),ef eL bK a.obj.names (k+1+1+1+(nL bF a.q.fields:Nat)+1+1+(nL bF a.resp.fields:Nat)+1+1+1+1),ef eL bK a.obj.values (k+1+1+1+(nL bF a.q.fields:Nat)+1+1+(nL bF a.resp.fields:Nat)+1+1+1+1+(nL bK a.obj.names:Nat)),⟨gd a.obj.resp.status (k+1+1+1+(nL bF a.q.fields:Nat)+1+1+(nL bF a.resp.fields:Nat)+1+1+1+1+(nL bK a.obj.names:Nat)+(nL bK a.obj.values:Nat)),ef oP bF a.obj.resp.fields (k+1+1+1+(nL bF a.q.fields:Nat)+1+1+(nL bF a.resp.fields:Nat)+1+1+1+1+(nL bK a.obj.names:Nat)+(nL bK a.obj.values:Nat)+1),eL a.obj.resp.body (k+1+1+1+(nL bF a.q.fields:Nat)+1+1+(nL bF a.resp.fields:Nat)+1+1+1+1+(nL bK a.obj.names:Nat)+(nL bK a.obj.values:Nat)+1+(nL bF a.obj.resp.fields:Nat))⟩,gd a.obj.t (k+1+1+1+(nL bF a.q.fields:Nat)+1+1+(nL bF a.resp.fields:Nat)+1+1+1+1+(nL bK a.obj.names:Nat)+(nL bK a.obj.values:Nat)+1+(nL bF a.obj.resp.fields:Nat)+1)⟩,gd a.ay (k+1+1+1+(nL bF a.q.fields:Nat)+1+1+(nL bF a.resp.fields:Nat)+1+1+1+1+(nL bK a.obj.names:Nat)+(nL bK a.obj.values:Nat)+1+(nL bF a.obj.resp.fields:Nat)+1+1)⟩
def aaq(a:Rp):Nat:=13+nL bF a.q.fields+nL bF a.resp.fields+nL bK a.obj.names+nL bK a.obj.values+nL bF a.obj.resp.fields
def Dw(a:Rq)(k:Int):Rq:=⟨a.method,a.path,ef oP bF a.fields (k),a.body⟩
@[simp] def aqf(a:Rq)(k:Int):(Dw a k).method=a.method:=rfl
@[simp] def aqg(a:Rq)(k:Int):(Dw a k).path=a.path:=rfl
@[simp] def aqe(a:Rq)(k:Int):(Dw a k).body=a.body:=rfl
def Oa(a:Rq):Nat:=nL bF a.fields
def zo(a:bU)(k:Int):bU:=⟨a.status,ef oP bF a.fields (k),a.body⟩
@[simp] def aqi(a:bU)(k:Int):(zo a k).status=a.status:=rfl
@[simp] def aqh(a:bU)(k:Int):(zo a k).body=a.body:=rfl
def ai2(a:bU):Nat:=nL bF a.fields
def N8(a:Ob)(k:Int):Ob:=⟨a.path,ef eL bK a.names (k),ef eL bK a.values (k+(nL bK a.names:Nat)),zo a.resp (k+(nL bK a.names:Nat)+(nL bK a.values:Nat)),a.t⟩
@[simp] def aqb(a:Ob)(k:Int):(N8 a k).path=a.path:=rfl
@[simp] def aqc(a:Ob)(k:Int):(N8 a k).resp=zo a.resp (k+(nL bK a.names:Nat)+(nL bK a.values:Nat)):=rfl
@[simp] def aqd(a:Ob)(k:Int):(N8 a k).t=a.t:=rfl
def Vy(a:aV)(k:Int):aV:=⟨ef eL bK a.cells (k),ef agm Q6 a.pending (k+(nL bK a.cells:Nat))⟩
def N9(a:aV):Nat:=nL bK a.cells+nL Q6 a.pending
def Dx(a:Sh)(k:Int):Sh:=⟨Vy a.aD (k),ef agj Kr a.ai (k+(N9 a.aD:Nat)),ef agh Q4 a.ay (k+(N9 a.aD:Nat)+(nL Kr a.ai:Nat)),a.next,a.seq⟩
@[simp] def aqj(a:Sh)(k:Int):(Dx a k).aD=Vy a.aD (k):=rfl
@[simp] def aqk(a:Sh)(k:Int):(Dx a k).next=a.next:=rfl
@[simp] def aql(a:Sh)(k:Int):(Dx a k).seq=a.seq:=rfl
def Oc(a:Sh):Nat:=N9 a.aD+nL Kr a.ai+nL Q4 a.ay
def Vx(a:Ca)(k:Int):Ca:=⟨Dx a.jB (k),ef agi Kq a.nB (k+(Oc a.jB:Nat)),a.now,ef agl Q5 a.seen (k+(Oc a.jB:Nat)+(nL Kq a.nB:Nat)),ef agk aaq a.sent (k+(Oc a.jB:Nat)+(nL Kq a.nB:Nat)+(nL Q5 a.seen:Nat))⟩
@[simp] def ap4(a:Ca)(k:Int):(Vx a k).jB=Dx a.jB (k):=rfl
@[simp] def ap3(a:Ca)(k:Int):(Vx a k).now=a.now:=rfl
def zn(a:De)(k:Int):De:=⟨a.kind,a.client,Dw a.q (k),a.a,zo a.resp (k+(Oa a.q:Nat)),a.rG,ef TV bK a.keep (k+(Oa a.q:Nat)+(ai2 a.resp:Nat))⟩
@[simp] def ap8(a:De)(k:Int):(zn a k).kind=a.kind:=rfl
@[simp] def ap7(a:De)(k:Int):(zn a k).client=a.client:=rfl
@[simp] def ap9(a:De)(k:Int):(zn a k).q=Dw a.q (k):=rfl
@[simp] def ap5(a:De)(k:Int):(zn a k).a=a.a:=rfl
@[simp] def aqa(a:De)(k:Int):(zn a k).resp=zo a.resp (k+(Oa a.q:Nat)):=rfl
@[simp] def ap6(a:De)(k:Int):(zn a k).rG=a.rG:=rfl
end M
namespace M
open Go Go.RowKit
def ox.cell[B:Bs]{w:World}(h:ox w){b k:Nat}{v:Value}(hc:B.W0.cell? ⟨b,k,none⟩=some v):w.cell? ⟨b,k,none⟩=some v:=by
 have hb:b<B.W0.heap.size:=by
  rcases fV b B.W0.heap.size with h|h;·exact h
  ·simp[World.cell?,lB h] at hc
 have e:=h b hb;simpa [World.cell?,e] using hc
def YZ(w:World):Below w.heap.size w w.drew:=(Below.refl _ _).drew
def Y0(w:World):∀n,Below w.heap.size w (w.drewN n):=λn=>⟨rfl,rfl,rfl,ek _,λ_ _=>rfl⟩
def IU{cs:List C}{s c:ByteArray}(h:cs.map C.er=[.str s,.str c]):cs=[.str s,.str c]:=by obtain⟨a,r,rfl,h1,h2⟩:=map_cons h;obtain⟨b,r',rfl,h3,h4⟩:=map_cons h2;obtain rfl:=map_nil h4;rw[uz h1,uz h3]
def ag3{cs:List C}{s:ByteArray}(h:cs.map C.er=[.str s]):cs=[.str s]:=by obtain⟨a,r,rfl,h1,h2⟩:=map_cons h;obtain rfl:=map_nil h2;rw[uz h1]
def al0[Bs]{P:Program}{f0:FuncId}(hc:∀(s:ByteArray) (c:UInt8),c.toNat<128->∀w,s.size<=9223372036854775807->
  Calls P f0 #[.string s,.string ⟨#[c]⟩] w λe w'=>e=.returned (.string ⟨(Lib.trimB s.data.toList c).toArray⟩)/\(w'=w\/w'=w.drew)):(ez f0 IQ).Sound P:=
 vj λxs r hg w zl zb cs hx hA hs=>by
  unfold IQ at hg;split at hg
  ·rename_i s c;split at hg
   ·rename_i hh;cases hg;obtain rfl:=IU hx;have e:c=⟨#[32]⟩:=by have:=dz List.toArray hh.1;simp at this;cases c;simp at this;rw[this]
    subst e;refine(hc s 32 (by decide) w hh.2).mono λe w' ⟨he,hw⟩=>⟨.str ⟨(gw s.data.toList).toArray⟩,he,rfl,?_,uC ?_⟩
    ·rcases hw with rfl|rfl;·exact Below.refl _ _
     ·exact YZ _
    ·have:=VC s.data.toList;have h2:=hh.2;simp only[ByteArray.size] at h2⊢;simp at this⊢;omega
   ·cases hg
  ·cases hg
def aiG[B:Bs]{P:Program}{f0:FuncId}{g1:Nat}{t9:TypeId}(hm:∃m,B.W0.cell? ⟨g1,0,none⟩=some (.int .i64 m))(hc:∀(s sep:ByteArray) (m:Int) (w:World),s.size<4294967281->w.cell? ⟨g1,0,none⟩=some (.int .i64 m)->1<=sep.size->
  Calls P f0 #[.string s,.string sep] w λe w'=>e=.returned (.slice (some ⟨w.heap.size,0,none⟩) (Lib.countB s sep+1) (Lib.countB s sep+1))/\w'=w.alloc (.cells ((Lib.splitB sep 0 (Lib.countB s sep) s).map Value.string).toArray t9)):(ez f0 Dm).Sound P:=
 vj λxs r hg w zl zb cs hx hA hs=>by
  unfold Dm at hg;split at hg
  ·rename_i s c;split at hg
   ·rename_i hh;cases hg;obtain rfl:=IU hx;obtain⟨m,hm⟩:=hm;have hlen:=Lib.splitB_all c hh.2 0 _ s rfl;have SL:=Lib.splitB_data c 0 (Lib.countB s c) s;refine(hc s c m w hh.1 (hs.cell hm) hh.2).mono λe w' ⟨he,hw⟩=>?_;subst hw;refine⟨.row .own 1 (some (w.heap.size,0,none)) (Lib.splitB c 0 (Lib.countB s c) s).length (Lib.splitB c 0 (Lib.countB s c) s).length λi _=>.str ((Lib.splitB c 0 (Lib.countB s c) s).getD i ByteArray.empty),?_,?_,?_,?_⟩;·rw[he,hlen];rfl
    ·rw[ah8];unfold GX;congr 1;have:Lib.split s.data.toList c.data.toList=(Lib.splitB c 0 (Lib.countB s c) s).map (·.data.toList):=SL.symm;rw[this,cP];refine cm λx _=>?_;simp
    ·exact(Below.refl _ _).alloc (ek _) _
    ·refine adW (ek _) (t:=t9) ?_ λx hx=>?_;·show (w.heap.push _)[w.heap.size]?=_;simp
     ·have h1:x.data.toList∈Lib.splitK c.data.toList 0 (Lib.countB s c) s.data.toList:=by rw[<-SL];exact kH hx
      have h2:∀(k:Nat) (l:List UInt8),∀y∈Lib.splitK c.data.toList 0 k l,y.length<=l.length:=by
       intro k;induction k with
       |zero=>intro l y hy;simp[Lib.splitK] at hy;rw[hy];exact ek _
       |succ k ih=>
        intro l y hy;unfold Lib.splitK at hy;split at hy;·rw[fC.1 hy];exact ek _
        ·rcases b9.1 hy with rfl|hy;·simp;omega
         ·have:=ih _ _ hy;simp at this;omega
      have h3:=h2 _ _ _ h1;have h4:=hh.1;have e1:s.size=s.data.toList.length:=Lib.size_eq _;have e2:x.size=x.data.toList.length:=Lib.size_eq _;omega
   ·cases hg
  ·cases hg
def EN(s c:ag):(Lib.cut s c).1.length<=s.length/\(Lib.cut s c).2.1.length<=s.length:=by
 unfold Lib.cut;split;·simp;omega
 ·simp
def aav[B:Bs]{P:Program}{f0:FuncId}{g1:Nat}(hm:∃m,B.W0.cell? ⟨g1,0,none⟩=some (.int .i64 m))(hc:∀(s sep:ByteArray) (m:Int) (w:World),s.size<4294967281->w.cell? ⟨g1,0,none⟩=some (.int .i64 m)->
  Calls P f0 #[.string s,.string sep] w λe w'=>e=.returned (.tuple #[.string ⟨(Lib.cut s.data.toList sep.data.toList).1.toArray⟩,.string ⟨(Lib.cut s.data.toList sep.data.toList).2.1.toArray⟩,.bool (Lib.cut s.data.toList sep.data.toList).2.2])/\∃n,w'=w.drewN n):(ez f0 EM).Sound P:=
 vj λxs r hg w zl zb cs hx hA hs=>by
  unfold EM at hg;split at hg
  ·rename_i s c;split at hg
   ·rename_i hh;cases hg;obtain rfl:=IU hx;obtain⟨m,hm⟩:=hm;have hl:=EN s.data.toList c.data.toList;refine(hc s c m w hh (hs.cell hm)).mono λe w' ⟨he,n,hw⟩=>?_;subst hw;refine⟨Dy [.str ⟨(Lib.cut s.data.toList c.data.toList).1.toArray⟩,.str ⟨(Lib.cut s.data.toList c.data.toList).2.1.toArray⟩,.bool (Lib.cut s.data.toList c.data.toList).2.2],?_,?_,Y0 _ n,R5 λx hx=>?_⟩;·rw[he,VF];rfl
    ·rw[VE];rfl
    ·have hz:s.data.toList.length<=4294967281:=by have e1:s.size=s.data.toList.length:=Lib.size_eq _;omega
     simp only[b9,Jh,or_false] at hx;rcases hx with rfl|rfl|rfl;·exact⟨uC (by simp only[ByteArray.size,pP];omega),trivial,λ_ _ h=>h⟩
     ·exact⟨uC (by simp only[ByteArray.size,pP];omega),trivial,λ_ _ h=>h⟩
     ·exact⟨KT,trivial,λ_ _ h=>h⟩
   ·cases hg
  ·cases hg
def agB[B:Bs]{P:Program}{f0:FuncId}(hc:∀(s:ByteArray) (w:World),ox w->s.size<=9223372036854775807->
  Calls P f0 #[.string s] w λe w'=>e=.returned (.tuple #[.int .i64 (((bz s.data.toList).getD 0:Nat):Int),.bool (bz s.data.toList).isSome])/\Below w.heap.size w w'):(ez f0 GI).Sound P:=
 vj λxs r hg w zl zb cs hx hA hs=>by
  unfold GI at hg;split at hg
  ·rename_i s;split at hg
   ·rename_i hh;cases hg;obtain rfl:=ag3 hx;refine(hc s w hs hh).mono λe w' ⟨he,hw⟩=>?_;refine⟨Dy [.int .i64 (((bz s.data.toList).getD 0:Nat):Int),.bool (bz s.data.toList).isSome],?_,?_,hw,R5 λx hx=>?_⟩;·rw[he,VF];rfl
    ·rw[VE];cases bz s.data.toList<;>rfl
    ·simp only[b9,Jh,or_false] at hx;rcases hx with rfl|rfl;·exact⟨adV,trivial,λ_ _ h=>h⟩
     ·exact⟨KT,trivial,λ_ _ h=>h⟩
   ·cases hg
  ·cases hg
def afp[B:Bs]{P:Program}{f0:FuncId}(htab:Lib.TabIs P B.W0 "internal/strconv.uint64pow10" .u64 Lib.pow10Tab) (hc:∀(n:Int),-9223372036854775808<=n->n<=9223372036854775807->∀w,Lib.TabIs P w "internal/strconv.uint64pow10" .u64 Lib.pow10Tab->
  Calls P f0 #[.int .i64 n] w λe w'=>e=.returned (.string ⟨(Lib.itoa n).toArray⟩)/\∃k os,w'=Sort.grow (w.drewN k) os):(iX f0 BQ).Sound P:=
 ad6 λxs r h w hw=>by
  unfold BQ at h;split at h
  ·rename_i n;split at h;·rename_i SJ;cases h;exact hc n SJ.1 SJ.2 w (TabIs.same htab hw)
   ·cases h
  ·cases h
end M
namespace Go.Proofs
open Go.RowKit
def aiW{P:Program}{w w':World}{n:String}{k:IntKind}{zs:List Int}(h:Lib.TabIs P w n k zs)(hw:Below w.heap.size w w'):Lib.TabIs P w' n k zs:=by
 unfold Lib.TabIs World.var? at h⊢;cases hg:P.globalNamed n with
 |none=>rw[hg] at h;cases h
 |some g=>
  rw[hg] at h;simp only[gx] at h⊢
  have hlt:g<w.heap.size:=by
   rcases fV g w.heap.size with h'|h';·exact h'
   ·rw[lB h'] at h;cases h
  rw[hw.block g hlt];exact h
def VN[B:M.Bs]{P:Program}{w:World}{n:String}{cs:Array Value}(h:B.W0.var? P n=some cs)(hw:M.ox w):w.var? P n=some cs:=by
 unfold World.var? at h⊢;cases hg:P.globalNamed n with
 |none=>rw[hg] at h;cases h
 |some g=>
  rw[hg] at h;simp only[gx] at h⊢
  have hlt:g<B.W0.heap.size:=by
   rcases fV g B.W0.heap.size with h'|h';·exact h'
   ·rw[lB h'] at h;cases h
  rw[hw g hlt];exact h
def ad7(w:World)(k:Nat)(os:Array Obj):Below w.heap.size w (Sort.grow (w.drewN k) os):=
 ⟨rfl,rfl,rfl,by simp[Sort.grow,World.drewN],λb hb=>by show (w.heap++os)[b]?=w.heap[b]?;exact O6 hb⟩
def oS(v:Int)(l:List UInt8):Bool:=decide (0<=v/\v<=1000000/\Lib.itoa v=l)
def yc(v:Int)(l:List UInt8):Int:=if oS v l=true then v else 0
def agz{P:Program}{f a:FuncId}{s:ByteArray}{w:World}(hmax:s.size<=9223372036854775807)
  (aeM:7<s.size->Calls P f #[.string s] w λe w'=>e=.returned (.tuple #[.int .i64 0,.bool false])/\w'=w)
  (hok:¬7<s.size->∀v,Lib.atoiAll s.data.toList=.ok v->Calls P f #[.string s] w λe w'=>e=.returned (.tuple #[.int .i64 (yc v s.data.toList),.bool (oS v s.data.toList)])/\Below w.heap.size w w')
  (aeo:¬7<s.size->(∀v,Lib.atoiAll s.data.toList≠.ok v)->Calls P f #[.string s] w λe w'=>e=.returned (.tuple #[.int .i64 0,.bool false])/\Below w.heap.size w w'):
  Calls P f #[.string s] w λe w'=>e=.returned (.tuple #[.int .i64 (((M.bz s.data.toList).getD 0:Nat):Int),.bool (M.bz s.data.toList).isSome])/\Below w.heap.size w w':=by
 have hl:s.size=s.data.toList.length:=Lib.size_eq _;by_cases h:7<s.size;·rw[M.T6 _ (by omega)];exact(aeM h).mono λe w' ⟨he,hw⟩=>⟨he,hw▸Below.refl _ _⟩
 by_cases hv:∃v,Lib.atoiAll s.data.toList=.ok v
 ·obtain⟨v,hv⟩:=hv;rw[<-M.agC _ _ hv];refine(hok h v hv).mono λe w' ⟨he,hw⟩=>⟨?_,hw⟩;rw[he];by_cases hb:oS v s.data.toList=true;·have hb':=hb;unfold oS at hb';rw[bp] at hb';rw[yc,ax hb,hb,ax hb'];simp;omega
  ·have hb':=hb;unfold oS at hb';rw[bp] at hb';rw[yc,aF hb,aF hb'];simp[hb]
 ·have ey:∀v,Lib.atoiAll s.data.toList≠.ok v:=λv e=>hv ⟨v,e⟩;rw[M.agE _ ey];exact aeo h ey
def apT{H:Type}{enc:TypeId×Value->H}{a:Assume}{C:Checked}{os:Os}{f:FuncId}{fn:Func}{s:ChangeSpec}{conds:List PathCond}{apart fresh handsOn again:Bool}{X:World->Array Value->Prop}
  (hX:∀(w w':World) (args:Array Value),w.heap=w'.heap->X w args->X w' args)
  (own:ownKnob C.prog.godebug=none)(started:os.Started)(noInit:C.prog.inits.idxOf? f=none)(hfn:C.prog.funcs[f]?=some fn)
  (witness:∃(w:World) (tape:Tape) (i:Input),w.os=os/\(w.forCall tape i).Shaped C.prog/\i.vars=[]/\Input.okWide C.prog (w.forCall tape i) .any w.heap.size f i/\
   ((s.pre enc C.prog fn conds apart (w.forCall tape i).memory i.args/\X (w.forCall tape i).memory i.args)/\sizedMet enc C.prog fn (OpenSpec.ofChange s) apart (w.forCall tape i).memory i.args)/\a.holds C.prog (lone (Frame.enter C.prog f i.args .normal) [] (w.forCall tape i)))
  (contract:∀(W:World) (base:Nat) (args:Array Value) (ds gs:List (DataW H)) (before:List MemPlace),
   (∀(j:Nat) t v,fn.params[j]?=some t->args[j]?=some v->Value.okWide C.prog W .any base t v)->
   DataW.Whole enc C.prog fn.params.toList s.vars apart W args.toList ds gs before->
   conds.all (PathCond.test C.prog ⟨fn.params.toList,ds,s.plain.varTypes C.prog,gs⟩)=true->
   (DataW.weightsEach C.prog (fn.params.toList++s.plain.varTypes C.prog) (ds++gs)).all (· <=reachBytes)=true->X W args->
   W.ShapedOpen C.prog->
   a.holds C.prog (lone (Frame.enter C.prog f args .normal) [] W)->
   Calls C.prog f args W λe W'=>∃v,e=.returned v/\s.post enc C.prog fn apart fresh handsOn again W args v W'):
  ReturnsInHanded a C os f .any (λw args=>(s.pre enc C.prog fn conds apart w args/\X w args)/\sizedMet enc C.prog fn (OpenSpec.ofChange s) apart w args) (s.post enc C.prog fn apart fresh handsOn again):=by refine returnsInHanded_of_calls own started noInit witness ?_;intro w tape i _ hsh _ hok hpre hholds;obtain⟨_,_,_,fn',aeF,_,_,_,_,hval⟩:=hok;have e:fn'=fn:=iL (aeF.symm.trans hfn);subst e;obtain⟨⟨⟨ds,gs,before,hw,hc⟩,hx⟩,hz⟩:=hpre;have hw':=DataW.Whole.of_heap (w':=w.forCall tape i) (by rfl) hw;refine(contract (w.forCall tape i) w.heap.size i.args ds gs before hval hw' hc (hz.weights hw) (hX _ _ _ (by rfl) hx) hsh hholds).mono λe W' ⟨v,he,hp⟩=>?_;subst he;exact ChangeSpec.post_blind hp
end Go.Proofs
namespace M
open Go Go.RowKit
end M
namespace M
open Go Go.RowKit
def aiR:∀{rows:List (List X)} {l:List ag},strsOf rows=some l->rows=l.map λs=>[X.str ⟨s.toArray⟩]:=by
 intro rows;induction rows with
 |nil=>intro l h;simp[strsOf] at h;subst h;rfl
 |cons r rows ih=>
  intro l h;match r,h with
  |[.str a],h=>
   simp only[strsOf] at h;cases hs:strsOf rows with
   |none=>rw[hs] at h;simp at h
   |some l'=>rw[hs] at h;simp at h;subst h;rw[ih hs];simp
def afq[B:Bs]{P:Program}{f0:FuncId}
  (hc0:∀(a:Option Addr) (c:Nat) (sep:ByteArray) (w:World),Calls P f0 #[.slice a 0 c,.string sep] w λe w'=>e=.returned (.string ⟨#[]⟩)/\w'=w)
  (hc:∀(bk o c:Nat) (xs:List ByteArray) (sep:ByteArray) (w:World),(∀(j:Nat) x,xs[j]?=some x->w.cell? ⟨bk,o+j,none⟩=some (.string x))->bk<w.heap.size->xs.length<=140737488355328->xs.length<=c->(Lib.join (xs.map (·.data.toList)) sep.data.toList).length<=140737488355328->
   Calls P f0 #[.slice (some ⟨bk,o,none⟩) xs.length c,.string sep] w λe w'=>e=.returned (.string ⟨(Lib.join (xs.map (·.data.toList)) sep.data.toList).toArray⟩)/\Below w.heap.size w w'):(ez f0 Gr).Sound P:=
 vj λxs r hg w zl zb cs hx hA hs=>by
  unfold Gr at hg;split at hg
  ·rename_i rows sep;split at hg
   ·rename_i l hl;split at hg
    ·rename_i hh;cases hg;obtain⟨c1,r1,rfl,h1,h2⟩:=map_cons hx;obtain⟨c2,r2,rfl,h3,h4⟩:=map_cons h2;obtain rfl:=map_nil h4;obtain rfl:=uz h3;obtain⟨A,len,cap,e,rfl,hlen,hrow⟩:=Rz h1;have hrows:=aiR hl;have nE:len=l.length:=by rw[hlen,hrows];simp
     have ok:=hA.ok _ (bD ..);obtain⟨k1,k2,k3,k4,k5⟩:=ok;have fin:∀(s:ag),s.length<=140737488355328->pV w w (.str ⟨s.toArray⟩):=λs h=>uC (by simp only[ByteArray.size,pP];omega);rcases OU len with h0|hp;·subst h0;have hl0:l=[]:=Jx.1 nE.symm;subst hl0;refine(hc0 _ cap sep w).mono λe w' ⟨he,hw⟩=>?_;subst hw;exact⟨.str ⟨#[]⟩,he,by simp[C.er,pL,Lib.join],Below.refl _ _,uC (by simp[ByteArray.size])⟩
     ·obtain⟨g,o,kg,aes,_⟩:=k2 0 0 hp (by omega);subst kg
      have hcell:∀(j:Nat) x,(l.map λs=>(⟨s.toArray⟩:ByteArray))[j]?=some x->w.cell? ⟨g,o+j,none⟩=some (.string x):=by
       intro j x hj;have hj2:j<l.length:=by have:=aJ.1 hj;simpa using this.1
       obtain⟨g',o',Fj,iS,_⟩:=k2 j 0 (by omega) (by omega);cases Fj;have hr:=hrow j (by omega);rw[hrows] at hr
       have kj:(e j 0).er=.str x:=by
        rw[cZ] at hr hj;cases hlj:l[j]? with
        |none=>rw[hlj] at hj;simp at hj
        |some s=>rw[hlj] at hr hj;simp at hr hj;rw[<-hr,hj]
       rw[uz kj] at iS;simpa [C.val] using iS
      have hbk:g<w.heap.size:=by
       rcases fV g w.heap.size with h|h;·exact h
       ·simp[World.cell?,lB h] at aes
      have hmap:(l.map λs=>(⟨s.toArray⟩:ByteArray)).map (·.data.toList)=l:=by simp[Jo]
      have key:=hc g o cap (l.map λs=>⟨s.toArray⟩) sep w hcell hbk (by simpa using hh.2) (by simp;omega) (by rw[hmap];exact hh.1);rw[hmap] at key;simp only[cV,<-nE] at key;refine Calls.mono key λe w' ⟨he,hb⟩=>?_;exact⟨.str ⟨(Lib.join l sep.data.toList).toArray⟩,he,rfl,hb,uC (by have:=hh.1;simp only[ByteArray.size,pP];omega)⟩
    ·cases hg
   ·cases hg
  ·cases hg
def aem[B:Bs]{P:Program}{f0:FuncId}(hc:∀(s p:ByteArray) (w:World),
  Calls P f0 #[.string s,.string p] w λe w'=>e=.returned (.bool (Lib.hasPrefix s.data.toList p.data.toList))/\w'=w):(ez f0 Fs).Sound P:=
 vj λxs r hg w zl zb cs hx hA hs=>by
  unfold Fs at hg;split at hg;·rename_i s c;cases hg;obtain rfl:=IU hx;refine(hc s c w).mono λe w' ⟨he,hw⟩=>?_;subst hw;exact⟨.bool (Lib.hasPrefix s.data.toList c.data.toList),he,rfl,Below.refl _ _,KT⟩
  ·cases hg
end M
namespace M
open Go Go.RowKit
def jK(l:List (ByteArray×ByteArray)):List UInt8:=l.flatMap λf=>f.1.data.toList++[58,32]++f.2.data.toList++[13,10]
def R8{l:List (ByteArray×ByteArray)}{k:Nat}(h:k<l.length):jK (l.take (k+1))=jK (l.take k)++(l[k].1.data.toList++[58,32]++l[k].2.data.toList++[13,10]):=by unfold jK;rw[pQ h,Pc];simp only[jV,Pd,lz]
def adZ{l:List (ByteArray×ByteArray)}{k:Nat}(h:k<l.length):(jK (l.take k)).length+l[k].1.size+2+l[k].2.size+2<=(jK l).length:=by
 have e:jK l=jK (l.take (k+1))++jK (l.drop (k+1)):=by unfold jK;rw[<-Pc,OS]
 rw[e,R8 h];simp only[eu,cw,gA];have h1:l[k].1.data.toList.length=l[k].1.size:=by rw[DK];rfl
 have h2:l[k].2.data.toList.length=l[k].2.size:=by rw[DK];rfl
 omega
def E8(f:aK):ByteArray×ByteArray:=(⟨f.name.toArray⟩,⟨f.value.toArray⟩)
def R7(l:List aK):jK (l.map E8)=jo l:=by unfold jK jo;rw[List.flatMap_map];rfl
def aaP:∀{rows:List (List X)} {l:List aK},r8 rows=some l->rows=l.map aS:=by
 intro rows;induction rows with
 |nil=>intro l h;simp[r8] at h;subst h;rfl
 |cons r rows ih=>
  intro l h;match r,h with
  |[.str a,.str b],h=>
   simp only[r8] at h;cases hs:r8 rows with
   |none=>rw[hs] at h;simp at h
   |some l'=>rw[hs] at h;simp at h;subst h;rw[ih hs];simp
def aaL[B:Bs]{P:Program}{f0:FuncId}
  (hc:∀(A:Option Addr) (cap:Nat) (fs:List (ByteArray×ByteArray)) (w:World),
   (∀i f,fs[i]?=some f->∃g o,A=some ⟨g,o,none⟩/\g<w.heap.size/\w.cell? ⟨g,o+i*2,none⟩=some (.string f.1)/\w.cell? ⟨g,o+i*2+1,none⟩=some (.string f.2))->
   (jK fs).length<=140737488355328->fs.length<=140737488355328->
   Calls P f0 #[.slice A fs.length cap] w λe w'=>e=.returned (.string ⟨(jK fs).toArray⟩)/\Below w.heap.size w w'):(ez f0 E1).Sound P:=
 vj λxs r hg w zl zb cs hx hA hs=>by
  unfold E1 at hg;split at hg
  ·rename_i rows;split at hg
   ·rename_i l hl;split at hg
    ·rename_i hh;cases hg;obtain⟨c1,r1,rfl,h1,h2⟩:=map_cons hx;obtain rfl:=map_nil h2;obtain⟨A,len,cap,e,rfl,hlen,hrow⟩:=Rz h1;have hrows:=aaP hl;have nE:len=l.length:=by rw[hlen,hrows];simp
     have ok:=hA.ok _ (bD ..);obtain⟨k1,k2,k3,k4,k5⟩:=ok
     have hcell:∀i f,(l.map E8)[i]?=some f->∃g o,(A.map λq=>(⟨q.1,q.2.1,q.2.2⟩:Addr))=some ⟨g,o,none⟩/\g<w.heap.size/\w.cell? ⟨g,o+i*2,none⟩=some (.string f.1)/\w.cell? ⟨g,o+i*2+1,none⟩=some (.string f.2):=by
      intro i f hi;have hi2:i<l.length:=by have:=aJ.1 hi;simpa using this.1
      obtain⟨g,o,kg,h0,_⟩:=k2 i 0 (by omega) (by omega);obtain⟨g',o',Fj,h0',_⟩:=k2 i 1 (by omega) (by omega);rw[kg] at Fj;cases Fj;have hr:=hrow i (by omega);rw[hrows,cZ,cz hi2] at hr;rw[cZ,cz hi2] at hi;simp[List.range_succ,E8] at hr hi;obtain⟨r1,r2⟩:=hr;have q1:=uz r1.symm;have q2:=uz r2.symm;rw[q1] at h0;rw[q2] at h0';subst hi;refine⟨g,o,by rw[kg];rfl,?_,by simpa [C.val] using h0,by simpa [C.val] using h0'⟩;rcases fV g w.heap.size with h|h;·exact h
      ·simp[World.cell?,lB h] at h0
     have key:=hc (A.map λq=>(⟨q.1,q.2.1,q.2.2⟩:Addr)) cap (l.map E8) w hcell (by rw[R7];exact hh.1) (by simpa using hh.2);rw[R7,cV,<-nE] at key;refine Calls.mono key λe w' ⟨he,hb⟩=>?_;exact⟨.str ⟨(jo l).toArray⟩,he,rfl,hb,uC (by have:=hh.1;simp only[ByteArray.size,pP];omega)⟩
    ·cases hg
   ·cases hg
  ·cases hg
end M
namespace M
open Go
def cT{β γ ε:Type}(go:Nat->γ->β->γ ⊕ ε):Nat->List β->γ->γ ⊕ ε
 |_,[],g=>.inl g
 |i,b::l,g=>match go i g b with
  |.inl g'=>cT go (i+1) l g'
  |.inr e=>.inr e
def B0{xt:Nat}{β γ ε:Type}{f:ah->cB}(l:List β)(st:Nat->γ->ah)(go:Nat->γ->β->γ ⊕ ε)(E:γ->ah)(R:ε->Ex×ah)(Inv:Nat->γ->Prop)(g:γ)(h0:Inv 0 g)
  (h:∀i b g,l[i]?=some b->i<l.length->Inv i g->f (st i g)=(match go i g b with|.inl g'=>some (.normal,st (i+1) g')|.inr e=>lv (R e)))
  (hI:∀i b g g',l[i]?=some b->Inv i g->go i g b=.inl g'->Inv (i+1) g')
  (hend:∀g,Inv l.length g->f (st l.length g)=some (.exit xt,E g)):
  aI f (st 0 g)=(match cT go 0 l g with|.inl g'=>some (.exit xt,E g')|.inr e=>lv (R e)):=by
 suffices H:∀(r:List β) (i:Nat) (g:γ),Inv i g->l.drop i=r->i<=l.length->aI f (st i g)=(match cT go i r g with|.inl g'=>some (.exit xt,E g')|.inr e=>lv (R e)) from H l 0 g h0 rfl (oq _)
 intro r;induction r with
 |nil=>
  intro i g hi hr hl;have:i=l.length:=by have:=dz List.length hr;simp at this;omega
  subst this;rw[cW,hend g hi];rfl
 |cons b r ih=>
  intro i g hi hr hl
  have hlt:i<l.length:=by
   rcases fV i l.length with h|h;·exact h
   ·rw[O7 h] at hr;cases hr
  have hd:=nr hlt;rw[hr] at hd;have hb:l[i]?=some b:=by rw[cz hlt];cases hd;rfl
  have hr':l.drop (i+1)=r:=by cases hd;rfl
  rw[cW,h i b g hb hlt hi];unfold cT;cases hg:go i g b with
  |inl g'=>exact ih (i+1) g' (hI i b g g' hb hi hg) hr' hlt
  |inr e=>rcases hR:R e with ⟨x,s⟩;cases x<;>simp[fB,lv,hR]
def UW{β γ ε:Type}{go:Nat->γ->β->γ ⊕ ε}{g:γ}(r:List β):∀(l:List β) (i:Nat),(∀j (h:j<l.length),go (i+j) g l[j]=.inl g)->cT go i (l++r) g=cT go (i+l.length) r g
 |[],i,_=>by simp
 |b::l,i,h=>by
  have h0:=h 0 (by simp);simp only[om,Jw] at h0;rw[fM,cT,h0];simp only;rw[UW r l (i+1) (λj hj=>by have:=h (j+1) (by simp;omega);simp only[Pk] at this;rw[show i+1+j=i+(j+1) by omega];exact this),cw]
  congr 1;omega
def UU{β γ ε:Type}(go:Nat->γ->β->γ ⊕ ε)(k:Nat):∀(l:List β) (i:Nat) (g:γ),cT (λj=>go (j+k)) i l g=cT go (i+k) l g
 |[],_,_=>rfl
 |b::l,i,g=>by
  rw[cT,cT];cases go (i+k) g b with
  |inl g'=>simp only;rw[UU go k l (i+1) g',show i+1+k=i+k+1 by omega]
  |inr e=>rfl
def M5{β γ ε:Type}{go:Nat->γ->β->γ ⊕ ε}{I:Nat->γ->Prop}{O:ε->Prop}(n:Nat)(h:∀i g b,i<n->I i g->(∀g',go i g b=.inl g'->I (i+1) g')/\∀e,go i g b=.inr e->O e):∀(l:List β) (i:Nat) (g:γ),i+l.length=n->I i g->(∀g',cT go i l g=.inl g'->I n g')/\∀e,cT go i l g=.inr e->O e
 |[],i,g,hn,hg=>by
  have:i=n:=by simpa using hn
  subst this;exact⟨λg' e=>by cases e;exact hg,λe h=>by cases h⟩
 |b::l,i,g,hn,hg=>by
  have h1:=h i g b (by simp at hn;omega) hg;rw[cT];cases hO:go i g b with
  |inl g'=>exact M5 n h l (i+1) g' (by simp at hn;omega) (h1.1 g' hO)
  |inr e=>exact⟨λg' e=>(by cases e),λe he=>(by cases he;exact h1.2 _ hO)⟩
end M
namespace M
open Go
def crlf:ag:=[13,10]
def bx:ag:=[13,10,13,10]
def bR(c:UInt8)(s:ag):Prop:=∀b∈s,b≠c
def kC{c:UInt8}{s t:ag}:bR c (s++t)↔bR c s/\bR c t:=by
 unfold bR;constructor;·intro h;exact⟨λb hb=>h b (OJ _ hb),λb hb=>h b (OK _ hb)⟩
 ·intro h b hb;rcases dy.1 hb with hb|hb;·exact h.1 b hb
  ·exact h.2 b hb
def vl{c b:UInt8}{s:ag}:bR c (b::s)↔b≠c/\bR c s:=by simp[bR]
def Gl(c:UInt8)(t:ag):∀(l r:ag),bR c l->Lib.index (l++r) (c::t)=if Lib.index r (c::t)=-1 then -1 else Lib.index r (c::t)+l.length
 |[],r,_=>by simp only[kI,gA];split<;>simp_all
 |b::l,r,h=>by
  rw[vl] at h;have ih:=Gl c t l r h.2;have hge:=Lib.index_ge r (c::t);rw[fM,Lib.index,ih];have hcb:(c==b)=false:=by simp;exact λe=>h.1 e.symm
  have hp:(c::t).isPrefixOf (b::(l++r))=false:=by simp[List.isPrefixOf,hcb]
  rw[hp];simp only[fD,dQ,cw];by_cases g:Lib.index r (c::t)=-1;·simp[g]
  ·have g2:¬(Lib.index r (c::t)+l.length=-1):=by omega
   simp only[g,dQ,en,g2];omega
def afi(c:UInt8)(t:ag)(l:ag)(h:bR c l):Lib.index l (c::t)=-1:=by have:=Gl c t l [] h;rw[lz] at this;rw[this];rfl
def L2(c:UInt8)(t:ag)(l r:ag)(h:bR c l):Lib.index (l++(c::t++r)) (c::t)=l.length:=by
 have h0:Lib.index (c::t++r) (c::t)=0:=by rw[fM,Lib.index,ax (by simp)]
 rw[Gl c t l _ h,h0];simp
def Re(c:UInt8)(t:ag)(l r:ag)(h:bR c l):Lib.cut (l++(c::t++r)) (c::t)=(l,r,true):=by
 unfold Lib.cut;rw[L2 c t l r h,ax (by omega)];have e1:((l.length:Int)).toNat=l.length:=by omega
 rw[e1,DO];have e2:l++(c::t++r)=(l++c::t)++r:=by simp
 have e3:l.length+(c::t).length=(l++c::t).length:=by simp
 rw[e2,e3,wF]
def aiF(c:UInt8)(t:ag)(n:Nat)(l:ag)(h:bR c l):Lib.splitK (c::t) 0 n l=[l]:=by
 cases n with
 |zero=>rfl
 |succ n=>rw[Lib.splitK,afi c t l h];rfl
def aiJ(c:UInt8)(t:ag)(l:ag)(h:bR c l):Lib.split l (c::t)=[l]:=aiF c t _ l h
def aiH(c:UInt8)(t:ag)(l r:ag)(h:bR c l):Lib.split (l++(c::t++r)) (c::t)=l::Lib.split r (c::t):=by
 have hi:=L2 c t l r h;have e2:l++(c::t++r)=(l++c::t)++r:=by simp
 have e3:l.length+(c::t).length=(l++c::t).length:=by simp
 have hd:(l++(c::t++r)).drop (l.length+(c::t).length)=r:=by rw[e2,e3,wF]
 have hc:=Lib.count_hit (s:=l++(c::t++r)) (sub:=c::t) (by simp) hi;rw[hd] at hc;unfold Lib.split;rw[hc,oh,Lib.splitK,hi];have g:¬(((l.length:Int))==-1)=true:=by simp
 rw[aF g];have e1:((l.length:Int)).toNat=l.length:=by omega
 rw[e1,hd,om,DO]
def lines:List ag->ag
 |[]=>[]
 |[l]=>l
 |l::k::ls=>l++(crlf++lines (k::ls))
def TF:∀(ls:List ag),ls≠[]->(∀l∈ls,bR 13 l)->Lib.split (lines ls) crlf=ls
 |[l],_,h=>aiJ 13 [10] l (h l (bD ..))
 |l::k::ls,_,h=>by have ih:=TF (k::ls) (by simp) λx hx=>h x (bY _ hx);have:=aiH 13 [10] l (lines (k::ls)) (h l (bD ..));show Lib.split (l++(crlf++lines (k::ls))) crlf=_;rw[show crlf=13::[10] from rfl,this];rw[show (13::[10]:ag)=crlf from rfl,ih]
def afS:∀(ls:List ag),ls≠[]->(∀l∈ls,l≠[])->(∀l∈ls,bR 13 l)->∃b t,lines ls=b::t/\b≠13
 |[l],_,h,h2=>by obtain⟨b,t,e⟩:=WM (h l (bD ..));exact⟨b,t,e,h2 l (bD ..) b (by rw[e];exact bD ..)⟩
 |l::k::ls,_,h,h2=>by obtain⟨b,t,e⟩:=WM (h l (bD ..));exact⟨b,t++(crlf++lines (k::ls)),by show l++_=_;rw[e];rfl,h2 l (bD ..) b (by rw[e];exact bD ..)⟩
def TE(b:ag):∀(ls:List ag),ls≠[]->(∀l∈ls,l≠[])->(∀l∈ls,bR 13 l)->Lib.index (lines ls++(bx++b)) bx=(lines ls).length
 |[l],_,h,h2=>L2 13 [10,13,10] l b (h2 l (bD ..))
 |l::k::ls,_,h,h2=>by
  have hk:∀x∈k::ls,x≠[]:=λx hx=>h x (bY _ hx);have hk2:∀x∈k::ls,bR 13 x:=λx hx=>h2 x (bY _ hx);have ih:=TE b (k::ls) (by simp) hk hk2;obtain⟨c,t,e,hc⟩:=afS (k::ls) (by simp) hk hk2;have e0:lines (l::k::ls)++(bx++b)=l++(13::10::(lines (k::ls)++(bx++b))):=by show (l++(crlf++lines (k::ls)))++(bx++b)=_;simp[crlf]
  have e1:(lines (l::k::ls)).length=l.length+2+(lines (k::ls)).length:=by show (l++(crlf++lines (k::ls))).length=_;simp[crlf];omega
  have hcb:((13:UInt8)==c)=false:=by simp;exact λe=>hc e.symm
  have p1:bx.isPrefixOf (13::10::(lines (k::ls)++(bx++b)))=false:=by rw[e];simp[bx,List.isPrefixOf,hcb]
  have p2:bx.isPrefixOf (10::(lines (k::ls)++(bx++b)))=false:=by simp[bx,List.isPrefixOf]
  have e2:Lib.index (13::10::(lines (k::ls)++(bx++b))) bx=(lines (k::ls)).length+2:=by
   rw[Lib.index,p1,Lib.index,p2,ih];have q1:¬(((lines (k::ls)).length:Int)==-1)=true:=by simp
   simp only[fD,dQ,q1];have q2:¬(((lines (k::ls)).length:Int)+1==-1)=true:=by simp;omega
   simp only[q2];simp;omega
  rw[e0,show bx=13::[10,13,10] from rfl,Gl 13 [10,13,10] l _ (h2 l (bD ..)),show (13::[10,13,10]:ag)=bx from rfl,e2,e1,aF (by omega)];omega
def afR(b:ag)(ls:List ag)(h0:ls≠[])(h:∀l∈ls,l≠[])(h2:∀l∈ls,bR 13 l):Lib.cut (lines ls++(bx++b)) bx=(lines ls,b,true):=by
 unfold Lib.cut;rw[TE b ls h0 h h2,ax (by omega)];have e1:(((lines ls).length:Int)).toNat=(lines ls).length:=by omega
 have e2:lines ls++(bx++b)=(lines ls++bx)++b:=by simp
 have e3:(lines ls).length+bx.length=(lines ls++bx).length:=by simp
 rw[e1,DO,e3,e2,wF]
def oR:ag:=[72,84,84,80,47,49,46,49]
def iC(f:aK):ag:=f.name++([58,32]++f.value)
def Fa(fs:List aK):ag:=fs.flatMap λf=>iC f++crlf
def kB(b:ag):ag:=dK++([58,32]++aL b.length)
def k9(r:bU):ag:=oR++32::(aL r.status.toNat++[32,46])
def gu(r:bU):List ag:=k9 r::(r.fields.map iC++[kB r.body])
def gm(r:bU):ag:=lines (gu r)++(bx++r.body)
def fA(r:bU):ag:=if fy r=true then gm r else []
def adX(fs:List aK):jo fs=Fa fs:=by unfold jo Fa;congr 1;funext f;simp[rY,iC,crlf]
def afQ(fs:List aK)(l z:ag):lines (l::(fs.map iC++[z]))=l++(crlf++(Fa fs++z)):=by
 induction fs generalizing l with
 |nil=>rfl
 |cons f fs ih=>show l++(crlf++lines (iC f::(fs.map iC++[z])))=_;rw[ih];simp[Fa]
def UQ(r:bU):gm r=k9 r++(crlf++(jo r.fields++(kB r.body++(bx++r.body)))):=by unfold gm gu;rw[afQ,adX];simp
def rT(c:UInt8)(hc:c.toNat<48\/57<c.toNat)(n:Nat):bR c (aL n):=by intro b hb e;have:=dY.1 (Ar n) b hb;simp only[gF,bp] at this;subst e;omega
def IM(c:UInt8)(hc:qW c=false){s:ag}(h:dX s=true):bR c s:=by intro b hb e;unfold dX at h;simp only[aB] at h;have:=dY.1 h.1 b hb;rw[e,hc] at this;cases this
def ai3{s:ag}(h:dX s=true):s≠[]:=by rintro rfl;simp[dX] at h
def Om(c:UInt8)(hc:iw 32 c=false){s:ag}(h:fU s=true):bR c s:=by intro b hb e;unfold fU at h;simp only[aB] at h;have:=dY.1 h.1.1 b hb;rw[e,hc] at this;cases this
def E2{fs:List aK}(h:j9 fs=true){f:aK}(hf:f∈fs):dX f.name=true/\fU f.value=true/\f.name≠dK:=by unfold j9 at h;simp only[aB] at h;obtain⟨i,hi,rfl⟩:=tT hf;have:=dY.1 h.1 (fs[i],i) (mo (i:=i) (by simp[hi]));unfold jJ at this;simp only[aB,rq,DR] at this;exact⟨this.1.1.1,this.1.1.2,this.2⟩
def RB{fs:List aK}(h:j9 fs=true):fs.length<=8:=by unfold j9 at h;simp only[aB,bp] at h;omega
def aaJ{f:aK}(h1:dX f.name=true)(h2:fU f.value=true):bR 13 (iC f)/\bR 10 (iC f)/\iC f≠[]:=by
 refine⟨?_,?_,?_⟩;·unfold iC;rw[kC,kC];exact⟨IM 13 (by decide) h1,by simp[bR],Om 13 (by decide) h2⟩
 ·unfold iC;rw[kC,kC];exact⟨IM 10 (by decide) h1,by simp[bR],Om 10 (by decide) h2⟩
 ·have:=ai3 h1;simp[iC]
def afK(b:ag):bR 13 (kB b)/\bR 10 (kB b)/\kB b≠[]:=by
 refine⟨?_,?_,by simp[kB]⟩;·unfold kB;rw[kC,kC];exact⟨by simp[bR,dK],by simp[bR],rT 13 (by decide) _⟩
 ·unfold kB;rw[kC,kC];exact⟨by simp[bR,dK],by simp[bR],rT 10 (by decide) _⟩
def aic(r:bU):bR 13 (k9 r)/\bR 10 (k9 r)/\k9 r≠[]:=by
 refine⟨?_,?_,by simp[k9,oR]⟩;·unfold k9;rw[kC,vl,kC];exact⟨by simp[bR,oR],by decide,rT 13 (by decide) _,by simp[bR]⟩
 ·unfold k9;rw[kC,vl,kC];exact⟨by simp[bR,oR],by decide,rT 10 (by decide) _,by simp[bR]⟩
def UT{r:bU}(h:j9 r.fields=true):∀l∈gu r,bR 13 l/\bR 10 l/\l≠[]:=by
 intro l hl;unfold gu at hl;simp only[b9,dy,bw,Jh,or_false] at hl;rcases hl with rfl|⟨f,hf,rfl⟩|rfl;·exact aic r
 ·have:=E2 h hf;exact aaJ this.1 this.2.1
 ·exact afK r.body
end M
namespace M
open Go
open Classical in
noncomputable def mX{α:Type}(body:α->ag)(ok:α->Bool)(z:α)(s:ag):α×Bool:=
 if h:∃r,ok r=true/\body r=s then (h.choose,true) else (z,false)
def GP{α:Type}{body:α->ag}{ok:α->Bool}{z:α}{cand:ag->Option α}(hc:∀r,ok r=true->cand (body r)=some r)(s:ag):
  mX body ok z s=match cand s with
   |some r=>if ok r=true/\body r=s then (r,true) else (z,false)
   |none=>(z,false):=by
 unfold mX;by_cases h:∃r,ok r=true/\body r=s;·rw[lu h];have h1:=h.choose_spec;have h2:=hc _ h1.1;rw[h1.2] at h2;rw[h2];simp only;rw[ax h1]
 ·rw[rj h];cases hs:cand s with
  |none=>rfl
  |some r=>simp only;rw[aF];exact λhr=>h ⟨r,hr⟩
def UF{α:Type}{body:α->ag}{ok:α->Bool}{z:α}{s:ag}(h:(mX body ok z s).2=true):ok (mX body ok z s).1=true/\body (mX body ok z s).1=s:=by
 unfold mX at h⊢;by_cases g:∃r,ok r=true/\body r=s;·rw[lu g];exact g.choose_spec
 ·rw[rj g] at h;cases h
def UE{α:Type}{body:α->ag}{ok:α->Bool}{z:α}{s:ag}(h:(mX body ok z s).2=false):mX body ok z s=(z,false):=by
 unfold mX at h⊢;by_cases g:∃r,ok r=true/\body r=s;·rw[lu g] at h;cases h
 ·rw[rj g]
def UD{α:Type}{body:α->ag}{ok:α->Bool}{z:α}{cand:ag->Option α}(hc:∀r,ok r=true->cand (body r)=some r){r:α}(h:ok r=true):mX body ok z (body r)=(r,true):=by rw[GP hc,hc r h];simp only;rw[ax ⟨h,trivial⟩]
def colon:ag:=[58,32]
def mG:List ag->Option (List aK)
 |[]=>some []
 |l::ls=>if (Lib.cut l colon).2.2=true then (if ls=[]/\(Lib.cut l colon).1=dK then some [] else (mG ls).map λfs=>⟨(Lib.cut l colon).1,(Lib.cut l colon).2.1⟩::fs) else none
def lW(s:ag):Option (ag×List aK×ag):=
 if (Lib.cut s bx).2.2=true/\((Lib.split (Lib.cut s bx).1 crlf).length:Int)<=10 then (mG (Lib.split (Lib.cut s bx).1 crlf).tail).map λfs=>((Lib.split (Lib.cut s bx).1 crlf).headD [],fs,(Lib.cut s bx).2.1)
 else none
def lf(ws:List ag):Option ag:=match ws with
 |[_,w,_]=>some w
 |_=>none
def oZ(s:ag):Option bU:=(lW s).bind λp=>(lf (bA 32 p.1)).map λw=>⟨(((bz w).getD 0:Nat):Int),p.2.1,p.2.2⟩
def cD:bU:=⟨0,[],[]⟩
noncomputable def cX(s:ag):bU×Bool:=mX gm fy cD s
def Dn(w r:ag)(h:bR 32 w):bA 32 (w++32::r)=w::bA 32 r:=by rw[Dk 32 w _ h];simp[bA]
def US(r:bU):bA 32 (k9 r)=[oR,aL r.status.toNat,[46]]:=by unfold k9;rw[Dn _ _ (by simp[bR,oR]),show ([32,46]:ag)=32::[46] from rfl,Dn _ _ (rT 32 (by decide) _),Dl 32 [46] (by simp)]
def RU(b:ag):∀(fs:List aK),(∀f∈fs,dX f.name=true/\fU f.value=true/\f.name≠dK)->mG (fs.map iC++[kB b])=some fs
 |[],_=>by have:Lib.cut (kB b) colon=(dK,aL b.length,true):=Re 58 [32] dK (aL b.length) (by simp[bR,dK]);simp[mG,this]
 |f::fs,h=>by have hf:=h f (bD ..);have ih:=RU b fs λx hx=>h x (bY _ hx);have:Lib.cut (iC f) colon=(f.name,f.value,true):=Re 58 [32] f.name f.value (IM 58 (by decide) hf.1);simp only[bn,fM,mG,this,ih];simp
def MT{r:bU}(h:fy r=true):(100<=r.status/\r.status<=599)/\j9 r.fields=true/\r.body.length<=120:=by unfold fy at h;simp only[aB,bp] at h;exact⟨h.1.1,h.1.2,by omega⟩
def M1{r:bU}(h:fy r=true):oZ (gm r)=some r:=by
 obtain⟨hs,hf,hb⟩:=MT h;have hl:=UT hf;have hne:gu r≠[]:=by simp[gu]
 have hc:=afR r.body (gu r) hne (λl h=>(hl l h).2.2) (λl h=>(hl l h).1);have hsp:=TF (gu r) hne (λl h=>(hl l h).1);have hlen:=RB hf;have hp:lW (gm r)=some (k9 r,r.fields,r.body):=by unfold lW gm;rw[hc];simp only;rw[hsp,ax ⟨trivial,by simp[gu];omega⟩];have ht:(gu r).tail=r.fields.map iC++[kB r.body]:=rfl;rw[ht,RU r.body r.fields λf hf'=>E2 hf hf'];rfl
 unfold oZ;rw[hp];simp only[gx];rw[US];have hn:bz (aL r.status.toNat)=some r.status.toNat:=lU.2 ⟨by omega,rfl⟩;simp only[lf,cv,hn,tO];have:((r.status.toNat:Nat):Int)=r.status:=by omega
 rw[this]
def GW{r:bU}{s:ag}(hs:s≠[]):fA r=s↔fy r=true/\gm r=s:=by
 unfold fA;constructor
 ·intro h;split at h;·rename_i g;exact⟨g,h⟩
  ·exact absurd h.symm hs
 ·rintro ⟨g,h⟩;rw[ax g,h]
def UR(r:bU):gm r≠[]:=by rw[UQ];simp[k9,oR]
def MX(r:bU):fA r=[]↔¬fy r=true:=by unfold fA;have:=UR r;split<;>simp_all
def ah3(s:ag):cX s=match oZ s with
  |some r=>if fA r=s/\s≠[] then (r,true) else (cD,false)
  |none=>(cD,false):=by
 unfold cX;rw[GP (cand:=oZ) (λr h=>M1 h) s];cases oZ s with
 |none=>rfl
 |some r=>
  simp only;by_cases hs:s=[];·subst hs;rw[aF (λh=>UR r h.2),aF (by simp)]
  ·by_cases g:fA r=s;·rw[ax ((GW hs).1 g),ax ⟨g,hs⟩]
   ·rw[aF (mt (GW hs).2 g),aF (λh=>g h.1)]
def mS:ag:=[111,98,106]
def qE(o:Ob):ag:=mS++32::(o.path++32::(cy o.t++32::aL o.values.length))
def iJ(l:List ag):ag:=l.flatMap λv=>v++[10]
def lV(o:Ob):ag:=qE o++10::(iJ o.values++gm o.resp)
def dD(o:Ob):ag:=if dw o=true then lV o else []
def dm:Ob:=⟨[],[],[],cD,0⟩
noncomputable def ig(s:ag):Ob×Bool:=mX lV dw dm s
def fZ(s:ag):ag×ag:=(cF 10 s).getD (s,[])
def ei:Nat->ag->List ag×ag
 |0,s=>([],s)
 |n+1,s=>((fZ s).1::(ei n (fZ s).2).1,(ei n (fZ s).2).2)
def mg(ws:List ag):Option (ag×ag×ag):=match ws with
 |[_,p,t,n]=>some (p,t,n)
 |_=>none
def Ks(p r:ag)(h:bR 10 p):cF 10 (p++10::r)=some (p,r):=by
 induction p with
 |nil=>simp[cF]
 |cons b p ih=>rw[vl] at h;rw[fM,cF,aF h.1,ih h.2];rfl
def Rb(p r:ag)(h:bR 10 p):fZ (p++10::r)=(p,r):=by unfold fZ;rw[Ks p r h];rfl
def Vt(r:ag):∀(l:List ag),(∀v∈l,bR 10 v)->ei l.length (iJ l++r)=(l,r)
 |[],_=>rfl
 |v::l,h=>by
  have e:iJ (v::l)++r=v++10::(iJ l++r):=by simp[iJ]
  rw[e,cw,ei,Rb v _ (h v (bD ..)),Vt r l λx hx=>h x (bY _ hx)]
def VS(c:UInt8){lo:Nat}(hc:iw lo c=false){s:ag}(h:bq (iw lo) s=true):bR c s:=by intro b hb e;have:=dY.1 h b hb;rw[e,hc] at this;cases this
def Ur{s:ag}(h:ij s=true):bR 32 s/\bR 10 s:=by unfold ij at h;simp only[aB] at h;exact⟨VS 32 (by decide) h.1.1,VS 10 (by decide) h.1.1⟩
def T7(c:UInt8)(hc:c.toNat<48\/57<c.toNat)(n:Int):bR c (cy n):=by
 unfold cy;split;·exact rT c hc _
 ·simp[bR]
structure zX (o:Ob):Prop where
 resp:fy o.resp=true
 path:ij o.path=true
 t0:0<=o.t
 t1:o.t<=1000000
 names:nS o.names=true
 VO:o.names=dB o.resp.fields
 len:o.values.length=o.names.length
 n4:o.names.length<=4
 vals:∀v∈o.values,fU v=true
def ye{o:Ob}(h:dw o=true):zX o:=by
 unfold dw at h;simp only[aB,bp] at h;have hn:o.names.length<=4:=by have:=h.1.1.1.2;unfold nS at this;simp only[aB,bp] at this;omega
 obtain⟨⟨⟨⟨⟨⟨h1,h2⟩,h3,h4⟩,h5⟩,h6⟩,h7⟩,h8⟩:=h;exact⟨h1,h2,h3,h4,h5,h6,by omega,hn,λv hv=>dY.1 h8 v hv⟩
def T9{o:Ob}(h:zX o):bA 32 (qE o)=[mS,o.path,cy o.t,aL o.values.length]:=by unfold qE;rw[Dn _ _ (by simp[bR,mS]),Dn _ _ (Ur h.path).1,Dn _ _ (T7 32 (by decide) _),Dl 32 _ (rT 32 (by decide) _)]
def T8{o:Ob}(h:zX o):bR 10 (qE o):=by unfold qE;rw[kC,vl,kC,vl,kC,vl];exact⟨by simp[bR,mS],by decide,(Ur h.path).2,by decide,T7 10 (by decide) _,by decide,rT 10 (by decide) _⟩
def VM{o:Ob}(h:zX o):∀v∈o.values,bR 10 v:=λv hv=>Om 10 (by decide) (h.vals v hv)
noncomputable def Cb(p:ag)(t n:Nat)(b:ag):Option Ob:=if n<=4 then (if (cX (ei n b).2).2=true then some ⟨p,dB (cX (ei n b).2).1.fields,(ei n b).1,(cX (ei n b).2).1,t⟩ else none) else none
noncomputable def yd(s:ag):Option Ob:=(mg (bA 32 (fZ s).1)).bind λw=>(bz w.2.1).bind λt=>(bz w.2.2).bind λn=>Cb w.1 t n (fZ s).2
def agR{o:Ob}(h:zX o):Cb o.path o.t.toNat o.values.length (iJ o.values++gm o.resp)=some o:=by
 have h1:=Vt (gm o.resp) o.values (VM h);have h2:cX (gm o.resp)=(o.resp,true):=UD (cand:=oZ) (λr h=>M1 h) h.resp;unfold Cb;have hl:=h.len;have h4:=h.n4;rw[ax (by omega),h1];simp only;rw[h2,ax rfl];simp only;have ht:((o.t.toNat:Nat):Int)=o.t:=by have:=h.t0;omega
 rw[ht,<-h.VO]
def agJ{o:Ob}(ho:dw o=true):yd (lV o)=some o:=by
 have h:=ye ho;unfold yd lV;rw[Rb _ _ (T8 h)];simp only;rw[T9 h];have h0:=h.t0;have h1:=h.t1;have hl:=h.len;have h4:=h.n4
 have hn:bz (cy o.t)=some o.t.toNat:=by
  have e:o.t=((o.t.toNat:Nat):Int):=by omega
  rw[e,MC _ (by omega)];simp;omega
 have hd:bz (aL o.values.length)=some o.values.length:=lU.2 ⟨by omega,rfl⟩;simp only[mg,gx,hn,hd];exact agR h
def agH(o:Ob):lV o≠[]:=by simp[lV,qE,mS]
def Ue{o:Ob}{s:ag}(hs:s≠[]):dD o=s↔dw o=true/\lV o=s:=by
 unfold dD;constructor
 ·intro h;split at h;·rename_i g;exact⟨g,h⟩
  ·exact absurd h.symm hs
 ·rintro ⟨g,h⟩;rw[ax g,h]
def ME(o:Ob):dD o=[]↔¬dw o=true:=by unfold dD;have:=agH o;split<;>simp_all
def Ua{cand:ag->Option Ob}(hc:∀o,dw o=true->cand (lV o)=some o)(hn:cand []=none)(s:ag):ig s=match cand s with
  |some o=>if dD o=s then (o,true) else (dm,false)
  |none=>(dm,false):=by
 unfold ig;rw[GP (cand:=cand) hc s];cases hs:cand s with
 |none=>rfl
 |some o=>
  simp only;have hs0:s≠[]:=by rintro rfl;rw[hn] at hs;cases hs
  by_cases g:dD o=s;·rw[ax ((Ue hs0).1 g),ax g]
  ·rw[aF (mt (Ue hs0).2 g),aF g]
def agK:yd []=none:=by simp[yd,fZ,cF,bA,mg]
def agN(s:ag):ig s=match yd s with
  |some o=>if dD o=s then (o,true) else (dm,false)
  |none=>(dm,false):=Ua (λo h=>agJ h) agK s
end M
namespace M
open Go
def gZ(s:ag)(i:Nat)(g:List ag×Nat)(b:UInt8):(List ag×Nat) ⊕ (List ag×Nat):=
 if b=10/\1<=i/\s[i - 1]?=some 13/\g.2+1<=i then
  (if (s.take (i - 1)).drop g.2=[] then .inr (g.1,i+1) else .inl (g.1++[(s.take (i - 1)).drop g.2],i+1))
 else .inl g
def qi(s:ag):(List ag×Nat) ⊕ (List ag×Nat):=cT (λj=>gZ s (j+1)) 0 (s.drop 1) ([],0)
def iE(s:ag):List ag:=match qi s with|.inl g=>g.1|.inr g=>g.1
def lM(s:ag):Int:=match qi s with|.inl g=>-1|.inr g=>g.2
def SN(s:ag):qi s=cT (gZ s) 0 s ([],0):=by
 unfold qi;rw[UU (gZ s) 1];cases s with
 |nil=>rfl
 |cons b s=>
  rw[cT];have:gZ (b::s) 0 ([],0) b=.inl ([],0):=by unfold gZ;rw[aF (by omega)]
  rw[this];rfl
def Lb(s A l R:ag)(out:List ag)(hs:s=A++(l++(crlf++R)))(hl:bR 13 l):
  cT (gZ s) A.length (l++(crlf++R)) (out,A.length)=if l=[] then .inr (out,A.length+2) else cT (gZ s) (A.length+l.length+2) R (out++[l],A.length+l.length+2):=by
 rw[UW (crlf++R) l A.length (λj hj=>by
  unfold gZ;rw[aF];rintro ⟨h1,h2,h3,h4⟩;simp only at h4;have hj0:0<j:=by omega
  rw[hs,iM (by omega),kK (by omega)] at h3;exact hl 13 (mo h3) rfl)]
 have g1:gZ s (A.length+l.length) (out,A.length) 13=.inl (out,A.length):=by unfold gZ;rw[aF];rintro ⟨h1,_⟩;exact absurd h1 (by decide)
 have e1:s[A.length+l.length]?=some 13:=by
  rw[hs,iM (by omega),iM (by omega)];have:A.length+l.length - A.length - l.length=0:=by omega
  rw[this];rfl
 have e2:(s.take (A.length+l.length)).drop A.length=l:=by
  have:s=(A++l)++(crlf++R):=by rw[hs];simp
  rw[this,show A.length+l.length=(A++l).length by simp,DO,wF]
 have g2:gZ s (A.length+l.length+1) (out,A.length) 10=if l=[] then .inr (out,A.length+l.length+2) else .inl (out++[l],A.length+l.length+2):=by
  unfold gZ;have e3:A.length+l.length+1 - 1=A.length+l.length:=by omega
  rw[e3,ax ⟨rfl,by omega,e1,by simp only;omega⟩];simp only;rw[e2]
 show cT (gZ s) (A.length+l.length) (13::10::R) (out,A.length)=_;rw[cT,g1];simp only;rw[cT,g2];by_cases h:l=[];·subst h;simp
 ·simp only[h,dQ]
def SP(s b:ag):∀(ls:List ag) (A:ag) (out:List ag),ls≠[]->(∀l∈ls,l≠[])->(∀l∈ls,bR 13 l)->s=A++(lines ls++(bx++b))->
  cT (gZ s) A.length (lines ls++(bx++b)) (out,A.length)=.inr (out++ls,A.length+(lines ls).length+4)
 |[l],A,out,_,h,h2,hs=>by
  have e:lines [l]++(bx++b)=l++(crlf++([]++(crlf++b))):=by simp[lines,bx,crlf]
  rw[e] at hs⊢;have h0:l≠[]:=h l (bD ..);rw[Lb s A l _ out hs (h2 l (bD ..)),aF h0];have e2:A.length+l.length+2=(A++l++crlf).length:=by simp[crlf];omega
  rw[e2,Lb s (A++l++crlf) [] b _ (by rw[hs];simp) (by simp[bR]),ax rfl];simp[crlf,lines];omega
 |l::k::ls,A,out,_,h,h2,hs=>by
  have e:lines (l::k::ls)++(bx++b)=l++(crlf++(lines (k::ls)++(bx++b))):=by show (l++(crlf++lines (k::ls)))++(bx++b)=_;simp
  rw[e] at hs⊢;have h0:l≠[]:=h l (bD ..);rw[Lb s A l _ out hs (h2 l (bD ..)),aF h0];have e2:A.length+l.length+2=(A++l++crlf).length:=by simp[crlf];omega
  rw[e2,SP s b (k::ls) (A++l++crlf) (out++[l]) (by simp) (λx hx=>h x (bY _ hx)) (λx hx=>h2 x (bY _ hx)) (by rw[hs];simp)];have e3:(lines (l::k::ls)).length=l.length+2+(lines (k::ls)).length:=by show (l++(crlf++lines (k::ls))).length=_;simp[crlf];omega
  rw[e3];simp[crlf];omega
def aeA(ls:List ag)(b:ag)(h0:ls≠[])(h:∀l∈ls,l≠[])(h2:∀l∈ls,bR 13 l):qi (lines ls++(bx++b))=.inr (ls,(lines ls).length+4):=by have:=SP (lines ls++(bx++b)) b ls [] [] h0 h h2 rfl;rw[SN];simpa using this
def SO(s:ag):wL wS (iE s)<=s.length/\lM s<=s.length/\-1<=lM s:=by
 have H:=M5 (go:=gZ s) (I:=λi g=>wL wS g.1<=g.2/\g.2<=i) (O:=λg=>wL wS g.1<=g.2/\g.2<=s.length) s.length (λi g b hi hg=>by
  unfold gZ;by_cases hc:b=10/\1<=i/\s[i - 1]?=some 13/\g.2+1<=i
  ·rw[ax hc];by_cases hl:(s.take (i - 1)).drop g.2=[];·rw[ax hl];exact⟨λg' h=>(by cases h),λe h=>(by cases h;simp only;omega)⟩
   ·rw[aF hl];refine⟨λg' h=>?_,λe h=>(by cases h)⟩;cases h;simp only;have e:wL wS (g.1++[(s.take (i - 1)).drop g.2])=wL wS g.1+1+((s.take (i - 1)).drop g.2).length:=by simp[wL,wS];omega
    have e2:((s.take (i - 1)).drop g.2).length=i - 1 - g.2:=by simp;omega
    rw[e,e2];omega
  ·rw[aF hc];exact⟨λg' h=>(by cases h;omega),λe h=>(by cases h)⟩) s 0 ([],0) (by simp) (by simp[wL])
 rw[<-SN] at H;unfold iE lM;cases hr:qi s with
 |inl g=>have:=H.1 g hr;simp only;omega
 |inr g=>have:=H.2 g hr;simp only;omega
def rS(x:UInt8×UInt8):Bool:=decide (x.1=58) && decide (x.2=32)
def ux(l:ag):Option (Nat×(UInt8×UInt8)):=cL rS 0 (l.zip (l.drop 1))
def ic(l:ag):List aK:=match ux l with
 |some (k,_)=>if l.take k=dK then [] else [⟨l.take k,l.drop (k+2)⟩]
 |none=>[]
def RO{β:Type}{p:β->Bool}:∀(l:List β) (k i:Nat) (b:β),l[i]?=some b->p b=true->(∀j,j<i->∀c,l[j]?=some c->p c=false)->cL p k l=some (k+i,b)
 |[],k,i,b,h,_,_=>by simp at h
 |a::l,k,0,b,h,hp,_=>by simp at h;subst h;simp[cL,hp]
 |a::l,k,i+1,b,h,hp,hj=>by have h0:=hj 0 (by omega) a (by simp);rw[Jv] at h;have ih:=RO l (k+1) i b h hp λj hj' c hc=>hj (j+1) (by omega) c (by simpa using hc);simp only[cL,h0,fD,dQ,ih];congr 2;omega
def aas(n v:ag)(h:bR 58 n):ux (n++([58,32]++v))=some (n.length,(58,32)):=by
 unfold ux
 have:=RO (p:=rS) ((n++([58,32]++v)).zip ((n++([58,32]++v)).drop 1)) 0 n.length (58,32) (by
  rw[Pj];constructor;·rw[iM (by omega)];simp
  ·rw[pS,iM (by omega)];have:1+n.length - n.length=1:=by omega
   rw[this];rfl) (by decide) (λj hj c hc=>by
  have h1:=(Pj.1 hc).1;rw[kK hj] at h1;have:=h c.1 (mo h1);simp[rS,this])
 rw[this];simp
def TD{f:aK}(h:bR 58 f.name):ic (iC f)=if f.name=dK then [] else [f]:=by
 unfold ic iC;rw[aas _ _ h];simp only;have e1:(f.name++([58,32]++f.value)).take f.name.length=f.name:=DO
 have e2:(f.name++([58,32]++f.value)).drop (f.name.length+2)=f.value:=by
  have:f.name++([58,32]++f.value)=(f.name++[58,32])++f.value:=by simp
  rw[this,show f.name.length+2=(f.name++[58,32]).length by simp,wF]
 rw[e1,e2]
def afM(b:ag):ic (kB b)=[]:=by have:=TD (f:=⟨dK,aL b.length⟩) (by simp[bR,dK]);simp only[dh] at this;exact this
def afO(b:ag)(fs:List aK)(h:∀f∈fs,dX f.name=true/\fU f.value=true/\f.name≠dK):(fs.map iC++[kB b]).flatMap ic=fs:=by
 induction fs with
 |nil=>simp[afM]
 |cons f fs ih=>have hf:=h f (bD ..);have ih:=ih λx hx=>h x (bY _ hx);rw[bn,fM,jV,TD (IM 58 (by decide) hf.1),aF hf.2.2,ih];rfl
def afN(l:ag):wL aP (ic l)<=l.length+1:=by
 unfold ic;cases hc:ux l with
 |none=>simp[wL]
 |some x=>
  simp only;split;·simp[wL]
  ·simp[wL,aP];omega
def afP(ls:List ag):wL aP (ls.flatMap ic)<=wL wS ls:=by
 induction ls with
 |nil=>simp[wL]
 |cons l ls ih=>have h:=afN l;simp only[wL,jV,eu,jg,zH,cw,bn,nk,wS] at*;omega
def o7(s:ag):Option bU:=if 0<=lM s/\iE s≠[] then (lf (bA 32 ((iE s).headD []))).map λw=>⟨(((bz w).getD 0:Nat):Int),(iE s).tail.flatMap ic,s.drop (lM s).toNat⟩ else none
def aid{r:bU}(h:fy r=true):o7 (gm r)=some r:=by
 obtain⟨hs,hf,hb⟩:=MT h;have hl:=UT hf;have hne:gu r≠[]:=by simp[gu]
 have hr:=aeA (gu r) r.body hne (λl h=>(hl l h).2.2) (λl h=>(hl l h).1);have e1:iE (gm r)=gu r:=by unfold iE gm;rw[hr]
 have e2:lM (gm r)=(((lines (gu r)).length+4:Nat):Int):=by unfold lM gm;rw[hr]
 unfold o7;rw[e1,e2,ax ⟨by omega,hne⟩];have e3:(gu r).headD []=k9 r:=rfl;have e4:(gu r).tail=r.fields.map iC++[kB r.body]:=rfl
 have e5:(gm r).drop (((lines (gu r)).length+4:Nat):Int).toNat=r.body:=by
  unfold gm;have:lines (gu r)++(bx++r.body)=(lines (gu r)++bx)++r.body:=by simp
  rw[this,show (((lines (gu r)).length+4:Nat):Int).toNat=(lines (gu r)++bx).length by simp[bx];omega,wF]
 rw[e3,e4,e5,afO r.body r.fields λf hf'=>E2 hf hf',US];have hn:bz (aL r.status.toNat)=some r.status.toNat:=lU.2 ⟨by omega,rfl⟩;simp only[lf,cv,hn,tO];have:((r.status.toNat:Nat):Int)=r.status:=by omega
 rw[this]
def aie:o7 []=none:=by unfold o7;rw[aF];intro h;have:lM []=-1:=rfl;omega
def ah4(s:ag):cX s=match o7 s with
  |some r=>if fA r=s then (r,true) else (cD,false)
  |none=>(cD,false):=by
 unfold cX;rw[GP (cand:=o7) (λr h=>aid h) s];cases hs:o7 s with
 |none=>rfl
 |some r=>
  simp only;have hs0:s≠[]:=by rintro rfl;rw[aie] at hs;cases hs
  by_cases g:fA r=s;·rw[ax ((GW hs0).1 g),ax g]
  ·rw[aF (mt (GW hs0).2 g),aF g]
def aif{s:ag}{r:bU}(h:o7 s=some r):bH r<=2*s.length:=by
 unfold o7 at h;split at h
 ·obtain⟨w,hw,rfl⟩:=lq.1 h;have h1:=SO s;have h2:=afP (iE s).tail;have h3:wL wS (iE s).tail<=wL wS (iE s):=by cases iE s<;>simp[wL];omega
  simp only[bH,mA];omega
 ·cases h
end M
namespace M
open Go
def Oq{α:Type}(w:α->Nat)(l:List α)(n:Nat):wL w (l.take n)<=wL w l:=by have h:l=l.take n++l.drop n:=(OS n l).symm;have h1:=dz List.length h;have h2:=dz (λl=>(l.map w).sum) h;simp only[eu] at h1;simp only[jg,zH] at h2;unfold wL;omega
end M
namespace M
open Go
def RP{α:Type}{p:α->Bool}{l:List α}{i:Nat}{b:α}(h:cL p 0 l=some (i,b)):l=l.take i++b::l.drop (i+1)/\p b=true/\(l.take i).filter (λv=> !p v)=l.take i/\l.filter (λv=> !p v)=l.take i++(l.drop (i+1)).filter (λv=> !p v):=by
 obtain⟨_,h1,h2⟩:=qa h;rw[Jk] at h1;obtain⟨hi,rfl⟩:=aJ.1 h1;have e:l=l.take i++l[i]::l.drop (i+1):=by rw[<-nr hi,OS]
 have hb:∀x∈l.take i,p x=false:=by
  suffices H:∀(l:List α) (k i:Nat) (b:α),cL p k l=some (k+i,b)->∀x∈l.take i,p x=false from H l 0 i _ (by simpa using h)
  intro l;induction l with
  |nil=>intro k i b h;simp[cL] at h
  |cons a l ih=>
   intro k i b h x hx;unfold cL at h;by_cases hp:p a=true
   ·rw[ax hp] at h;have:i=0:=by have:=dz (λo=>o.map Prod.fst) h;simp at this;exact this
    subst this;simp at hx
   ·rw[aF hp] at h;cases i with
    |zero=>simp at hx
    |succ i=>
     rcases b9.1 (by simpa using hx) with rfl|hx;·simpa using hp
     ·exact ih (k+1) i b (by rw[h];congr 2;omega) x hx
 have hf:(l.take i).filter (λv=> !p v)=l.take i:=Pb.2 λx hx=>by simp[hb x hx]
 refine⟨e,h2,hf,?_⟩;conv=>lhs;rw[e]
 rw[List.filter_append,hf,Pa];simp[h2]
end M
namespace M
open Go
def eH{α:Type}(q:α->Int)(k:α):List α->List α
 |[]=>[k]
 |x::l=>if q k<q x then k::x::l else x::eH q k l
def gO{α:Type}(q:α->Int)(l:List α):List α:=l.foldl (λS k=>eH q k S) []
def mV{α:Type}(q:α->Int)(l:List α):Prop:=l.Pairwise λa b=>q a<=q b
def Gp{α:Type}(q:α->Int)(k:α):∀l:List α,(eH q k l).Perm (k::l)
 |[]=>List.Perm.refl _
 |x::l=>by
  unfold eH;split;·exact List.Perm.refl _
  ·exact((Gp q k l).cons x).trans (List.Perm.swap ..)
def afl{α:Type}{q:α->Int}{k x:α}{l:List α}:x∈eH q k l↔x=k\/x∈l:=by rw[(Gp q k l).mem_iff];simp
def Ti{α:Type}(q:α->Int)(k:α)(l:List α):(eH q k l).length=l.length+1:=by rw[(Gp q k l).length_eq];rfl
def L5{α:Type}{q:α->Int}{k:α}:∀{l:List α},mV q l->mV q (eH q k l)
 |[],_=>by simp[eH,mV]
 |x::l,h=>by
  unfold mV at h⊢;rw[fh] at h;unfold eH;split
  ·rename_i g;rw[fh];refine⟨λy hy=>?_,fh.2 h⟩;rcases b9.1 hy with rfl|hy;·omega
   ·have:=h.1 y hy;omega
  ·rename_i g;rw[fh];refine⟨λy hy=>?_,L5 h.2⟩;rcases afl.1 hy with rfl|hy;·omega
   ·exact h.1 y hy
def aiC{α:Type}(q:α->Int)(l:List α)(k:α):gO q (l++[k])=eH q k (gO q l):=by simp[gO]
def IB{α:Type}(q:α->Int)(l:List α):(gO q l).Perm l:=by
 suffices H:∀(l S:List α),(l.foldl (λS k=>eH q k S) S).Perm (S++l) by simpa [gO] using H l []
 intro l;induction l with
 |nil=>intro S;simp
 |cons k l ih=>intro S;rw[ou];refine(ih _).trans ?_;refine((Gp q k S).append_right l).trans ?_;simpa using (List.perm_middle (a:=k) (l₁:=S) (l₂:=l)).symm
def aiD{α:Type}(q:α->Int)(l:List α):mV q (gO q l):=by
 suffices H:∀(l S:List α),mV q S->mV q (l.foldl (λS k=>eH q k S) S) by exact H l [] (by simp[mV])
 intro l;induction l with
 |nil=>intro S h;simpa using h
 |cons k l ih=>intro S h;rw[ou];exact ih _ (L5 h)
def Tg{α:Type}{q:α->Int}{k:α}:∀{l r:List α},(∀x∈l,q x<=q k)->eH q k (l++r)=l++eH q k r
 |[],r,_=>rfl
 |x::l,r,h=>by have h1:=h x (bD ..);rw[fM,eH,aF (by omega),Tg λy hy=>h y (bY _ hy)];rfl
def Th{α:Type}{q:α->Int}{k:α}{l:List α}(h:∀x∈l,q k<q x):eH q k l=k::l:=by
 cases l with
 |nil=>rfl
 |cons x l=>rw[eH,ax (h x (bD ..))]
def jQ{α:Type}(q:α->Int)(k:α)(g:List α×Bool)(x:α):List α×Bool:=
 (if g.2=false/\q k<q x then g.1++[k,x] else g.1++[x],g.2||decide (q k<q x))
def Gn{α:Type}(k:α)(g:List α×Bool):List α:=if g.2=true then g.1 else g.1++[k]
def afk{α:Type}(q:α->Int)(k:α)(l:List α)(out:List α):Gn k (l.foldl (jQ q k) (out,false))=out++eH q k l:=by
 have H:∀(l out:List α),l.foldl (jQ q k) (out,true)=(out++l,true):=by
  intro l;induction l with
  |nil=>intro out;simp
  |cons x l ih=>intro out;rw[ou];simp only[jQ,O5,false_and,dQ,Bool.true_or];rw[ih];simp
 induction l generalizing out with
 |nil=>simp[Gn,eH]
 |cons x l ih=>
  rw[ou];unfold eH;by_cases g:q k<q x;·simp only[jQ,g,zL,dh,decide_true,Bool.or_true];rw[H];simp[Gn]
  ·simp only[jQ,g,and_false,dQ,O1,Bool.or_false];rw[ih];simp
def xP{α:Type}(q:α->Int)(k:α):List α->List α->List α
 |[],done=>k::done
 |x::rev,done=>if q k<q x then xP q k rev (x::done) else (x::rev).reverse++k::done
def Tj{α:Type}{q:α->Int}{k:α}:∀(rev done:List α),mV q rev.reverse->(∀x∈done,q k<q x)->xP q k rev done=eH q k (rev.reverse++done)
 |[],done,_,h=>by simp[xP,Th h]
 |x::rev,done,ho,h=>by
  have e:(x::rev).reverse=rev.reverse++[x]:=by simp
  have ho':=ho;rw[e] at ho';unfold mV at ho';rw[tL] at ho';unfold xP;split
  ·rename_i g
   rw[Tj rev (x::done) ho'.1 (λy hy=>by
    rcases b9.1 hy with rfl|hy;·exact g
    ·exact h y hy)]
   simp
  ·rename_i g
   rw[Tg (λy hy=>by
    rw[e] at hy;rcases dy.1 hy with hy|hy;·have:=ho'.2.2 y hy x (by simp);omega
    ·simp at hy;subst hy;omega),Th h]
end M
namespace M
open Go
structure zY (S:Int) (l:List Kp):Prop where
 k:∀x∈l,dw x.obj=true/\(5<=x.at_/\x.at_<=19)/\1<=x.seq/\x.seq<S
 p:l.Pairwise λx y=>x.at_≠y.at_/\x.seq<y.seq
def afI(S:Int)(l:List Kp):oT S l=true↔∀i (h:i<l.length),dw l[i].obj=true/\(5<=l[i].at_/\l[i].at_<=19)/\(∀y∈l.take i,¬y.at_=l[i].at_)/\kD l i<l[i].seq/\l[i].seq<S:=by
 unfold oT;rw[dY];constructor
 ·intro H i h
  have hm:(l[i],i)∈l.zipIdx:=by
   have:(l.zipIdx)[i]'(by simpa using h)=(l[i],i):=by simp
   rw[<-this];exact cq _
  have:=H _ hm;simp only[oL,aB,bp,dY] at this;exact⟨this.1.1.1.1,this.1.1.1.2,this.1.1.2,this.1.2,this.2⟩
 ·intro H x hx;obtain⟨i,hi,rfl⟩:=tT hx;have hl:i<l.length:=by simpa using hi
  have:=H i hl;simp only[List.getElem_zipIdx,oL,aB,bp,dY,nq];exact⟨⟨⟨⟨this.1,this.2.1⟩,this.2.2.1⟩,this.2.2.2.1⟩,this.2.2.2.2⟩
def GK{S:Int}{l:List Kp}:oT S l=true↔zY S l:=by
 rw[afI];constructor
 ·intro H
  have up:∀j (hj:j<l.length) i (hi:i<j),l[i].seq<l[j].seq:=by
   intro j;induction j with
   |zero=>intro hj i hi;omega
   |succ j ih=>
    intro hj i hi;have h1:=(H (j+1) hj).2.2.2.1;rw[Cj l j (by omega)] at h1;rcases fV i j with h|h;·have:=ih (by omega) i h;omega
    ·have:i=j:=by omega
     subst this;exact h1
  refine⟨λx hx=>?_,?_⟩
  ·obtain⟨i,hi,rfl⟩:=tT hx;have h:=H i hi;refine⟨h.1,h.2.1,?_,h.2.2.2.2⟩;cases i with
   |zero=>have:=h.2.2.2.1;simp[kD] at this;omega
   |succ i=>have h1:=up (i+1) hi 0 (by omega);have h2:=(H 0 (by omega)).2.2.2.1;simp[kD] at h2;omega
  ·rw[q7];intro i j hi hj hij;refine⟨λe=>?_,up j hj i hij⟩;refine(H j hj).2.2.1 l[i] ?_ e;exact Wz.2 ⟨i,by omega,rfl⟩
 ·rintro ⟨hk,hp⟩ i h;rw[q7] at hp;have h1:=hk _ (cq h);refine⟨h1.1,h1.2.1,λy hy e=>?_,?_,h1.2.2.2⟩;·obtain⟨j,hj,rfl⟩:=Wz.1 hy;exact(hp j i (by omega) h (by omega)).1 e
  ·cases i with
   |zero=>simp[kD];omega
   |succ i=>rw[Cj l i (by omega)];exact(hp i (i+1) (by omega) h (by omega)).2
end M
namespace M
open Go
end M
namespace Go.Proofs
structure rA where
 p:ByteArray
 a1:Option Addr
 l1:Nat
 c1:Nat
 a2:Option Addr
 l2:Nat
 c2:Nat
 s:Int
 a3:Option Addr
 l3:Nat
 c3:Nat
 b:ByteArray
 t:Int
 k:Int
 q:Int
def rA.v(e:rA):Nat->Value
 |0=>.string e.p
 |1=>.slice e.a1 e.l1 e.c1
 |2=>.slice e.a2 e.l2 e.c2
 |3=>.int .i64 e.s
 |4=>.slice e.a3 e.l3 e.c3
 |5=>.string e.b
 |6=>.int .i64 e.t
 |7=>.int .i64 e.k
 |_=>.int .i64 e.q
def rA.ob(e:rA):Array Value:= #[.string e.p,.slice e.a1 e.l1 e.c1,.slice e.a2 e.l2 e.c2,.int .i64 e.s,.slice e.a3 e.l3 e.c3,.string e.b,.int .i64 e.t]
def rA.kp(e:rA):Array Value:= #[.string e.p,.slice e.a1 e.l1 e.c1,.slice e.a2 e.l2 e.c2,.int .i64 e.s,.slice e.a3 e.l3 e.c3,.string e.b,.int .i64 e.t,.int .i64 e.k,.int .i64 e.q]
def rA.z:rA:=⟨⟨#[]⟩,none,0,0,none,0,0,0,none,0,0,⟨#[]⟩,0,0,0⟩
end Go.Proofs
namespace M
open Go Go.RowKit Go.Proofs
end M
