/- A machine of values for loaded Go functions, sound for the calculus of calls; part 3; no conditions. -/
import Derived.Test.YtaaeoialiegmeaaGreatDoorMb
import Derived.Sort.Grow
import Derived.Deep.Draws
import Derived.Lib.LaidTab
import Derived.MakeChecks
import Derived.Laws.BitsLemmas
import Derived.ChangeArms
import Derived.ChangeReads
import Derived.ChangeOld
import Derived.ChangeShapes
import Derived.SizedLaws
import Derived.RowKit
import Derived.Below
import Derived.Lib.ItoaNum
import Derived.Lib.TrimByte
import Derived.Lib.AtoiAllCases
import Derived.Lib.SplitLaws
import Derived.Lib.Join
import Derived.Lib.IndexMore
import Derived.HandedShaped
import Derived.Lib.Strings
import Derived.Lib.Slices
import Derived.Lib.Walk
import Derived.Stop.LaidErr
import Derived.RangeFuncNested
import Derived.RangeFuncCalls
import Derived.OrdersHeld
import Derived.OrdersIn
set_option linter.defProp false
set_option linter.unusedSectionVars false
set_option linter.unusedVariables false
set_option linter.unusedSimpArgs false
namespace M
open Go
section
variable {C C':bw}{ok:FuncId->Bool}
def Q5{C:bw}{d:Option Nat}{s s':af}{f:FuncId}{xs:List X}(h:lR d s (C f xs)=some s'):∃o,C f xs=some o/\∀C':bw,C' f xs=some o->lR d s (C' f xs)=some s':=by
 cases ho:C f xs with
 |none=>rw[ho] at h;cases h
 |some o=>rw[ho] at h;exact⟨o,rfl,λC' h'=>by rw[h'];exact h⟩
def Q4{C:bw}{d:Option Nat}{as:List (AV×PM)}{back:sC}{s':af}{f:FuncId}{xs:List X}(h:uI d as back (C f xs)=some s'):∃o,C f xs=some o/\∀C':bw,C' f xs=some o->uI d as back (C' f xs)=some s':=by
 cases ho:C f xs with
 |none=>rw[ho] at h;cases h
 |some o=>rw[ho] at h;exact⟨o,rfl,λC' h'=>by rw[h'];exact h⟩
def EJ{f:FuncId}{d:Option Nat}{as:List (AV×PM)}{fv:Option AV}{s s':af}(h:mG C f d as fv s=some s'):
  ∃xs o,C f xs=some o/\∀C':bw,C' f xs=some o->mG C' f d as fv s=some s':=by
 unfold mG at h⊢;by_cases hb:X.bare.fD (aX as s).1=true
 ·simp only[aA hb] at h⊢;cases hm:cH as with
  |none=>
   simp only[hm] at h⊢;by_cases hc:qg (aX as s).2 fv f=true;·simp only[aA hc] at h⊢;obtain⟨o,h1,h2⟩:=Q5 h;exact⟨_,o,h1,h2⟩
   ·simp only[aC hc] at h;cases h
  |some xn=>
   obtain⟨x,n⟩:=xn;simp only[hm] at h⊢;unfold wm at h⊢;split at h
   ·split at h;·rename_i y back h1 h2;simp only[h1,aA h2];obtain⟨o,h1,h2⟩:=Q4 h;exact⟨_,o,h1,h2⟩
    ·cases h
   ·cases h
 ·simp only[aC hb] at h;cases h
def Fb{o:bt}{s s':af}(h:bJ C ok o s=some s'):(∀C':bw,bJ C' ok o s=some s')\/∃f xs r,C f xs=some r/\∀C':bw,C' f xs=some r->bJ C' ok o s=some s':=by
 cases o with
 |call d f as=>obtain⟨xs,o,h1,h2⟩:=EJ (C:=C) h;exact .inr ⟨f,xs,o,h1,h2⟩
 |lf d x as=>
  simp only[bJ] at h⊢;split at h
  ·rename_i f caps hf;split at h;·rename_i hok;obtain⟨xs,o,h1,h2⟩:=EJ (C:=C) h;refine .inr ⟨f,xs,o,h1,λC' h'=>?_⟩;simp only[aA hok];exact h2 C' h'
   ·cases h
  ·cases h
 |mF d f x as=>
  simp only[bJ] at h⊢;split at h
  ·rename_i cs h1;split at h
   ·rename_i h2;simp only[aA h2];refine .inr ?_;cases ho:C f (.agg (aY cs s).1::dY (aY cs s).2 .dead as (as.map λ_=>.dead)) with
    |none=>rw[ho] at h;cases h
    |some r=>rw[ho] at h;exact⟨f,_,r,ho,λC' h'=>by rw[h'];exact h⟩
   ·cases h
  ·cases h
 |_=>exact .inl λ_=>h
def E7{g:G}{s s':af}(h:eG C ok g s=some s'):(∀C':bw,eG C' ok g s=some s')\/∃f xs r,C f xs=some r/\∀C':bw,C' f xs=some r->eG C' ok g s=some s':=by
 obtain⟨gg,o⟩:=g;cases gg with
 |none=>exact Fb h
 |some tb=>
  obtain⟨t,b⟩:=tb;simp only[eG] at h⊢;split at h
  ·rename_i v hv;split at h;·rename_i h1;simp only[hv,aA h1];exact Fb h
   ·rename_i h1;simp only[hv,aC h1];exact .inl λ_=>h
  ·exact .inl λ_=>h
  ·cases h
def bw.le(C C':bw):Prop:=∀f xs o,C f xs=some o->C' f xs=some o
def E9(hl:C.le C'){g:G}{s s':af}(h:eG C ok g s=some s'):eG C' ok g s=some s':=by
 rcases E7 h with h|⟨f,xs,r,h1,h2⟩;·exact h _
 ·exact h2 _ (hl _ _ _ h1)
def AQ(hl:C.le C'):∀{l:List G} {s s':af},gE C ok l s=some s'->gE C' ok l s=some s'
 |[],_,_,h=>h
 |g::l,s,s',h=>by
  simp only[gE] at h⊢;cases h1:eG C ok g s with
  |none=>rw[h1] at h;cases h
  |some s1=>rw[h1] at h;rw[E9 hl h1];exact AQ hl h
def qn(hl:C.le C'):∀{t:DT} {s s':af},eD C ok t s=some s'->eD C' ok t s=some s'
 |.nil _,_,_,h=>h
 |.step _ g l,s,s',h=>by
  simp only[eD] at h⊢;cases h1:eG C ok g s with
  |none=>rw[h1] at h;cases h
  |some s1=>rw[h1] at h;rw[E9 hl h1];exact qn hl h
 |.alt a b,s,s',h=>by
  simp only[eD] at h⊢;unfold same at h;split at h;·rename_i x y hx hy;rw[qn hl hx,qn hl hy];exact h
  ·cases h
 |.kp _ t,s,s',h=>qn (t:=t) hl h
def zg{k k':af->bx}{r r':bx}{o:Ex×af}(h:dG k r=some o)(hr:∀x,r=some x->r'=some x)(hk:∀s,k s=some o->k' s=some o):dG k' r'=some o:=by
 unfold dG at h;split at h;·rw[hr _ rfl];exact hk _ h
 ·rw[hr _ rfl];exact h
 ·rw[hr _ rfl];exact h
 ·cases h
def qP{f f':af->bx}(hf:∀s o,f s=some o->f' s=some o):∀{n m:Nat} {s:af} {o:Ex×af},n<=m->iter f n s=some o->iter f' m s=some o
 |0,_,_,_,_,h=>by cases h
 |n+1,0,_,_,hn,_=>by omega
 |n+1,m+1,s,o,hn,h=>zg h (hf s) λs' h'=>qP hf (by omega) h'
end
noncomputable def aT(f:af->bx)(s:af):bx:=by classical exact if h:∃o:Ex×af,∃n,iter f n s=some o then some (Classical.choose h) else none
def uc{f:af->bx}{s:af}{o:Ex×af}{n:Nat}(h:iter f n s=some o):aT f s=some o:=by have hh:∃o:Ex×af,∃n,iter f n s=some o:=⟨o,n,h⟩;unfold aT;rw[j7 hh];obtain⟨m,hm⟩:=vM hh;have h1:=qP (λ_ _ h=>h) (Nat.le_max_left m n) hm;have h2:=qP (λ_ _ h=>h) (Nat.le_max_right m n) h;rw[h1] at h2;exact h2
def B4{f:af->bx}{s:af}{o:Ex×af}(h:aT f s=some o):∃n,iter f n s=some o:=by
 unfold aT at h;split at h;·rename_i hh;cases h;exact vM hh
 ·cases h
def Ci{α:Type}{a b:Option α}(h1:∀x,a=some x->b=some x)(h2:∀x,b=some x->a=some x):a=b:=by
 cases a with
 |none=>cases b with
  |none=>rfl
  |some y=>exact h2 y rfl
 |some x=>exact(h1 x rfl).symm
def dS(f:af->bx)(s:af):aT f s=dG (aT f) (f s):=by
 refine Ci (λo h=>?_) λo h=>?_
 ·obtain⟨n,hn⟩:=B4 h;cases n with
  |zero=>cases hn
  |succ n=>exact zg hn (λ_ h=>h) λs' h'=>uc h'
 ·unfold dG at h;split at h;·rename_i s' hs;obtain⟨n,hn⟩:=B4 h;refine uc (n:=n+1) ?_;simp only[iter,hs,dG];exact hn
  ·rename_i hs;refine uc (n:=1) ?_;simp only[iter,hs,dG];exact h
  ·rename_i hs;refine uc (n:=1) ?_;simp only[iter,hs,dG];exact h
  ·cases h
noncomputable def aD(C:bw)(ok:FuncId->Bool):A->af->bx
 |.skip,s=>some (.normal,s)
 |.ret,s=>some (.ret,s)
 |.exit id,s=>some (.exit id,s)
 |.ops l,s=>fm (gE C ok l s)
 |.draw t,s=>fm (eD C ok t s)
 |.seq a b,s=>dG (aD C ok b) (aD C ok a s)
 |.cond c a b,s=>match aj s c with
  |.bool t=>if t=true then aD C ok a s else aD C ok b s
  |_=>none
 |.block id b,s=>iD id (aD C ok b s)
 |.loop b,s=>aT (aD C ok b) s
 |.pk ks b,s=>iS ks (aD C ok b s)
def x9{a b:Option af}(h:∀s,a=some s->b=some s){o:Ex×af}(ho:fm a=some o):fm b=some o:=by
 unfold fm at ho;split at ho;·rw[h _ rfl];exact ho
 ·cases ho
def Eh{id:Nat}{a b:bx}(h:∀s,a=some s->b=some s){o:Ex×af}(ho:iD id a=some o):iD id b=some o:=by
 cases a with
 |none=>cases ho
 |some x=>rw[h _ rfl];exact ho
def Hp{ks:List Nat}{a b:bx}(h:∀s,a=some s->b=some s){o:Ex×af}(ho:iS ks a=some o):iS ks b=some o:=by
 cases a with
 |none=>cases ho
 |some x=>rw[h _ rfl];exact ho
def Lp{C C':bw}{ok:FuncId->Bool}(hl:C.le C'){N:Nat}:∀{t:A} {s:af} {o:Ex×af},eA C ok N t s=some o->aD C' ok t s=some o:=by
 intro t;induction t with
 |skip=>intro s o h;exact h
 |ret=>intro s o h;exact h
 |exit id=>intro s o h;exact h
 |ops l=>intro s o h;exact x9 (λs' h'=>AQ hl h') h
 |draw l=>intro s o h;exact x9 (λs' h'=>qn hl h') h
 |seq a b fk gI=>intro s o h;exact zg h (λx hx=>fk hx) λs' h'=>gI h'
 |cond c a b fk gI=>
  intro s o h;simp only[eA] at h;simp only[aD];split at h
  ·rename_i t ht;try rw[ht]
   cases t with
   |true=>exact fk h
   |false=>exact gI h
  ·cases h
 |block id b ih=>intro s o h;exact Eh (λx hx=>ih hx) h
 |loop b ih=>intro s o h;exact uc (qP (λs o h=>ih h) (ez _) h)
 |pk ks b ih=>intro s o h;exact Hp (λx hx=>ih hx) h
def Lq{C C':bw}{ok:FuncId->Bool}(hl:C.le C'){N N':Nat}(hN:N<=N'):∀{t:A} {s:af} {o:Ex×af},eA C ok N t s=some o->eA C' ok N' t s=some o:=by
 intro t;induction t with
 |skip=>intro s o h;exact h
 |ret=>intro s o h;exact h
 |exit id=>intro s o h;exact h
 |ops l=>intro s o h;exact x9 (λs' h'=>AQ hl h') h
 |draw l=>intro s o h;exact x9 (λs' h'=>qn hl h') h
 |seq a b fk gI=>intro s o h;exact zg h (λx hx=>fk hx) λs' h'=>gI h'
 |cond c a b fk gI=>
  intro s o h;simp only[eA] at h⊢;split at h
  ·rename_i t ht;cases t with
   |true=>exact fk h
   |false=>exact gI h
  ·cases h
 |block id b ih=>intro s o h;exact Eh (λx hx=>ih hx) h
 |loop b ih=>intro s o h;exact qP (λs o h=>ih h) hN h
 |pk ks b ih=>intro s o h;exact Hp (λx hx=>ih hx) h
def wK{L:bw}{T:fU}:∀{n m:Nat},n<=m->(exec L T n).le (exec L T m)
 |0,_,_,_,_,_,h=>by cases h
 |n+1,0,hn,_,_,_,_=>by omega
 |n+1,m+1,hn,f,xs,o,h=>by
  have hnm:n<=m:=by omega
  simp only[exec] at h⊢;split at h
  ·rename_i F hF;unfold eF at h⊢;split at h
   ·rename_i hl;rw[aA hl];cases hr:eA (exec L T n) (aH T) n F.body (jE xs) with
    |none=>rw[hr] at h;cases h
    |some r=>rw[hr] at h;rw[Lq (wK hnm) hnm hr];exact h
   ·cases h
  ·exact h
noncomputable def ev(L:bw)(T:fU):bw:=λf xs=>by classical exact if h:∃o:Out,∃n,exec L T n f xs=some o then some (Classical.choose h) else none
def AU{L:bw}{T:fU}{f:FuncId}{xs:List X}{o:Out}{n:Nat}(h:exec L T n f xs=some o):ev L T f xs=some o:=by have hh:∃o:Out,∃n,exec L T n f xs=some o:=⟨o,n,h⟩;unfold ev;rw[j7 hh];obtain⟨m,hm⟩:=vM hh;have h1:=wK (Nat.le_max_left m n) f xs _ hm;have h2:=wK (Nat.le_max_right m n) f xs _ h;rw[h1] at h2;exact h2
def wI{L:bw}{T:fU}{f:FuncId}{xs:List X}{o:Out}(h:ev L T f xs=some o):∃n,exec L T n f xs=some o:=by
 unfold ev at h;split at h;·rename_i hh;cases h;exact vM hh
 ·cases h
def Lx(L:bw)(T:fU)(n:Nat):(exec L T n).le (ev L T):=λ_ _ _ h=>AU h
def VU[Bs]{P:Program}{L:bw}{T:fU}(hL:L.Sound P)(hT:T.Ok P):(ev L T).Sound P:=λf xs o h=>by obtain⟨n,hn⟩:=wI h;exact Fm hL hT n f xs o hn
section
variable {L:bw}{T:fU}
def E8{g:G}{s s':af}(h:eG (ev L T) (aH T) g s=some s'):∃n,∀m,n<=m->eG (exec L T m) (aH T) g s=some s':=by
 rcases E7 h with h|⟨f,xs,r,h1,h2⟩;·exact⟨0,λm _=>h _⟩
 ·obtain⟨n,hn⟩:=wI h1;exact⟨n,λm hm=>h2 _ (wK hm f xs r hn)⟩
def Fe:∀{l:List G} {s s':af},gE (ev L T) (aH T) l s=some s'->∃n,∀m,n<=m->gE (exec L T m) (aH T) l s=some s'
 |[],s,s',h=>⟨0,λm _=>h⟩
 |g::l,s,s',h=>by
  simp only[gE] at h⊢;cases h1:eG (ev L T) (aH T) g s with
  |none=>rw[h1] at h;cases h
  |some s1=>rw[h1] at h;obtain⟨n1,fI⟩:=E8 h1;obtain⟨n2,hn2⟩:=Fe (l:=l) h;exact⟨max n1 n2,λm hm=>by rw[fI m (by omega)];exact hn2 m (by omega)⟩
def sY:∀{l:DT} {s s':af},eD (ev L T) (aH T) l s=some s'->∃n,∀m,n<=m->eD (exec L T m) (aH T) l s=some s'
 |.nil _,s,s',h=>⟨0,λm _=>h⟩
 |.step _ g l,s,s',h=>by
  simp only[eD] at h⊢;cases h1:eG (ev L T) (aH T) g s with
  |none=>rw[h1] at h;cases h
  |some s1=>rw[h1] at h;obtain⟨n1,fI⟩:=E8 h1;obtain⟨n2,hn2⟩:=sY (l:=l) h;exact⟨max n1 n2,λm hm=>by rw[fI m (by omega)];exact hn2 m (by omega)⟩
 |.alt a b,s,s',h=>by
  simp only[eD] at h⊢;unfold same at h;split at h;·rename_i x y hx hy;obtain⟨n1,fI⟩:=sY hx;obtain⟨n2,hn2⟩:=sY hy;exact⟨max n1 n2,λm hm=>by rw[fI m (by omega),hn2 m (by omega)];exact h⟩
  ·cases h
 |.kp _ t,s,s',h=>sY (l:=t) h
def GY{a:Option af}{b:Nat->Option af}(h:∀s,a=some s->∃n,∀m,n<=m->b m=some s){o:Ex×af}(ho:fm a=some o):∃n,∀m,n<=m->fm (b m)=some o:=by
 cases a with
 |none=>cases ho
 |some s=>obtain⟨n,hn⟩:=h s rfl;exact⟨n,λm hm=>by rw[hn m hm];exact ho⟩
def Lv:∀{t:A} {s:af} {o:Ex×af},aD (ev L T) (aH T) t s=some o->∃n,∀m,n<=m->eA (exec L T m) (aH T) m t s=some o:=by
 intro t;induction t with
 |skip=>intro s o h;exact⟨0,λm _=>h⟩
 |ret=>intro s o h;exact⟨0,λm _=>h⟩
 |exit id=>intro s o h;exact⟨0,λm _=>h⟩
 |ops l=>intro s o h;exact GY (λs h=>Fe h) h
 |draw l=>intro s o h;exact GY (λs h=>sY h) h
 |seq a b fk gI=>
  intro s o h;simp only[aD] at h;simp only[eA];cases hr:aD (ev L T) (aH T) a s with
  |none=>rw[hr] at h;cases h
  |some r=>
   rw[hr] at h;obtain⟨n1,fI⟩:=fk hr;obtain⟨e,s1⟩:=r;cases e with
   |normal=>obtain⟨n2,hn2⟩:=gI (s:=s1) h;exact⟨max n1 n2,λm hm=>by rw[fI m (by omega)];exact hn2 m (by omega)⟩
   |exit i=>exact⟨n1,λm hm=>by rw[fI m hm];exact h⟩
   |ret=>exact⟨n1,λm hm=>by rw[fI m hm];exact h⟩
 |cond c a b fk gI=>
  intro s o h;simp only[aD] at h;simp only[eA];split at h
  ·rename_i t ht;try rw[ht]
   cases t with
   |true=>exact fk h
   |false=>exact gI h
  ·cases h
 |block id b ih=>
  intro s o h;simp only[aD] at h;simp only[eA];cases hr:aD (ev L T) (aH T) b s with
  |none=>rw[hr] at h;cases h
  |some r=>rw[hr] at h;obtain⟨n1,fI⟩:=ih hr;exact⟨n1,λm hm=>by rw[fI m hm];exact h⟩
 |pk ks b ih=>
  intro s o h;simp only[aD] at h;simp only[eA];cases hr:aD (ev L T) (aH T) b s with
  |none=>rw[hr] at h;cases h
  |some r=>rw[hr] at h;obtain⟨n1,fI⟩:=ih hr;exact⟨n1,λm hm=>by rw[fI m hm];exact h⟩
 |loop b ih=>
  intro s o h;simp only[aD] at h;obtain⟨n,hn⟩:=B4 h
  have go:∀(n:Nat) (s:af),iter (aD (ev L T) (aH T) b) n s=some o->∃k,∀m,k<=m->iter (eA (exec L T m) (aH T) m b) n s=some o:=by
   intro n;induction n with
   |zero=>intro s h;cases h
   |succ n ihn=>
    intro s h;simp only[iter] at h⊢;cases hr:aD (ev L T) (aH T) b s with
    |none=>rw[hr] at h;cases h
    |some r=>
     rw[hr] at h;obtain⟨n1,fI⟩:=ih hr;obtain⟨e,s1⟩:=r;cases e with
     |normal=>obtain⟨n2,hn2⟩:=ihn s1 h;exact⟨max n1 n2,λm hm=>by rw[fI m (by omega)];exact hn2 m (by omega)⟩
     |exit i=>exact⟨n1,λm hm=>by rw[fI m hm];exact h⟩
     |ret=>exact⟨n1,λm hm=>by rw[fI m hm];exact h⟩
  obtain⟨k,hk⟩:=go n s hn;refine⟨max k n,λm hm=>?_⟩;simp only[eA];exact qP (λ_ _ h=>h) (by omega) (hk m (by omega))
noncomputable def wH(L:bw)(T:fU)(F:Fn)(xs:List X):Option Out:=
 if xs.length=F.n then fin F (aD (ev L T) (aH T) F.body (jE xs)) else none
def Lw{f:FuncId}{F:Fn}(hF:T f=some F)(xs:List X):ev L T f xs=wH L T F xs:=by
 refine Ci (λo h=>?_) λo h=>?_
 ·obtain⟨n,hn⟩:=wI h;cases n with
  |zero=>cases hn
  |succ n=>
   simp only[exec,hF] at hn;unfold eF at hn;unfold wH;split at hn
   ·rename_i hl;rw[aA hl];cases hr:eA (exec L T n) (aH T) n F.body (jE xs) with
    |none=>rw[hr] at hn;cases hn
    |some r=>rw[hr] at hn;rw[Lp (Lx L T n) hr];exact hn
   ·cases hn
 ·unfold wH at h;split at h
  ·rename_i hl;cases hr:aD (ev L T) (aH T) F.body (jE xs) with
   |none=>rw[hr] at h;cases h
   |some r=>rw[hr] at h;obtain⟨n,hn⟩:=Lv hr;refine AU (n:=n+1) ?_;simp only[exec,hF,eF,aA hl,hn n (ez n)];exact h
  ·cases h
def ow{f:FuncId}(hF:T f=none)(xs:List X):ev L T f xs=L f xs:=by
 refine Ci (λo h=>?_) λo h=>?_
 ·obtain⟨n,hn⟩:=wI h;cases n with
  |zero=>cases hn
  |succ n=>simpa only[exec,hF] using hn
 ·refine AU (n:=1) ?_;simpa only[exec,hF] using h
end
end M
namespace M
open Go
section
variable {C:bw}{ok:FuncId->Bool}{T:fU}
@[simp] def VT(s:af):aD C ok .skip s=some (.normal,s):=rfl
@[simp] def VR(s:af):aD C ok .ret s=some (.ret,s):=rfl
@[simp] def VN(i:Nat)(s:af):aD C ok (.exit i) s=some (.exit i,s):=rfl
@[simp] def VP(l:List G)(s:af):aD C ok (.ops l) s=fm (gE C ok l s):=rfl
@[simp] def VM(t:DT)(s:af):aD C ok (.draw t) s=fm (eD C ok t s):=rfl
@[simp] def VS(a b:A)(s:af):aD C ok (.seq a b) s=dG (aD C ok b) (aD C ok a s):=rfl
@[simp] def VK(i:Nat)(b:A)(s:af):aD C ok (.block i b) s=iD i (aD C ok b s):=rfl
@[simp] def VO(b:A)(s:af):aD C ok (.loop b) s=aT (aD C ok b) s:=rfl
@[simp] def VQ(ks:List Nat)(b:A)(s:af):aD C ok (.pk ks b) s=iS ks (aD C ok b s):=rfl
noncomputable def E0(C:bw)(ok:FuncId->Bool)(a b:A)(s:af):X->bx
 |.bool t=>if t=true then aD C ok a s else aD C ok b s
 |_=>none
@[simp] def VL(c:AV)(a b:A)(s:af):aD C ok (.cond c a b) s=E0 C ok a b s (aj s c):=by simp only[aD];cases aj s c<;>rfl
@[simp] def Vf(a b:A)(s:af)(t:Bool):E0 C ok a b s (.bool t)=if t=true then aD C ok a s else aD C ok b s:=rfl
@[simp] def VI(s:af):gE C ok [] s=some s:=rfl
@[simp] def VH(g:G)(l:List G)(s:af):gE C ok (g::l) s=(eG C ok g s).bind (gE C ok l):=rfl
@[simp] def VC(ks:List Nat)(s:af):eD C ok (.nil ks) s=some (keep ks s):=rfl
@[simp] def VD(i:Nat)(g:G)(t:DT)(s:af):eD C ok (.step i g t) s=(eG C ok g s).bind (eD C ok t):=rfl
@[simp] def VA(a b:DT)(s:af):eD C ok (.alt a b) s=same (eD C ok a s) (eD C ok b s):=rfl
@[simp] def VB(ks:List Nat)(t:DT)(s:af):eD C ok (.kp ks t) s=eD C ok t (keep ks s):=rfl
@[simp] def Xt(s:af):same (some s) (some s)=some s:=by
 have:mM s s=true:=by
  induction s with
  |nil=>rfl
  |cons a l ih=>obtain⟨k,x⟩:=a;simp[mM,X.Fk,ih]
 simp[same,this]
@[simp] def Uu(c:Prop)[Decidable c](a b:Option af)(f:af->Option af):(if c then a else b).bind f=if c then a.bind f else b.bind f:=by split<;>rfl
def wX(C:bw)(ok:FuncId->Bool)(o:bt)(t:Nat)(b:Bool)(s:af):X->Option af
 |.bool v=>if v=b then bJ C ok o ((t,.bool b)::s) else some (dN o.dst (.aq []) ((t,.bool (!b))::s))
 |.aq []=>some (dN o.dst (.aq []) s)
 |_=>none
@[simp] def VF(o:bt)(s:af):eG C ok ⟨none,o⟩ s=bJ C ok o s:=rfl
@[simp] def VG(t:Nat)(b:Bool)(o:bt)(s:af):eG C ok ⟨some (t,b),o⟩ s=wX C ok o t b s (get s t):=by simp only[eG];split<;>simp_all[wX]
@[simp] def V7(o:bt)(t:Nat)(b v:Bool)(s:af):wX C ok o t b s (.bool v)=if v=b then bJ C ok o ((t,.bool b)::s) else some (dN o.dst (.aq []) ((t,.bool (!b))::s)):=rfl
@[simp] def V8(o:bt)(t:Nat)(b:Bool)(s:af):wX C ok o t b s (.aq [])=some (dN o.dst (.aq []) s):=rfl
@[simp] def Xe(s:af):fm (some s)=some (.normal,s):=rfl
@[simp] def Xd:fm none=none:=rfl
@[simp] def Xc(c:Prop)[Decidable c](a b:Option af):fm (if c then a else b)=if c then fm a else fm b:=by split<;>rfl
@[simp] def Xy(k:af->bx)(s:af):dG k (some (.normal,s))=k s:=rfl
@[simp] def Xv(k:af->bx)(i:Nat)(s:af):dG k (some (.exit i,s))=some (.exit i,s):=rfl
@[simp] def Xz(k:af->bx)(s:af):dG k (some (.ret,s))=some (.ret,s):=rfl
@[simp] def Xx(k:af->bx):dG k none=none:=rfl
@[simp] def Xw(k:af->bx)(c:Prop)[Decidable c](a b:bx):dG k (if c then a else b)=if c then dG k a else dG k b:=by split<;>rfl
@[simp] def Uy(i:Nat)(s:af):iD i (some (.normal,s))=some (.normal,s):=rfl
@[simp] def Uv(i j:Nat)(s:af):iD i (some (.exit j,s))=if j=i then some (.normal,s) else some (.exit j,s):=rfl
@[simp] def Uz(i:Nat)(s:af):iD i (some (.ret,s))=some (.ret,s):=rfl
@[simp] def Ux(i:Nat):iD i none=none:=rfl
@[simp] def Uw(i:Nat)(c:Prop)[Decidable c](a b:bx):iD i (if c then a else b)=if c then iD i a else iD i b:=by split<;>rfl
@[simp] def Xn(ks:List Nat)(s:af):iS ks (some (.normal,s))=some (.normal,keep ks s):=rfl
@[simp] def Xk(ks:List Nat)(i:Nat)(s:af):iS ks (some (.exit i,s))=some (.exit i,s):=rfl
@[simp] def Xo(ks:List Nat)(s:af):iS ks (some (.ret,s))=some (.ret,s):=rfl
@[simp] def Xm(ks:List Nat):iS ks none=none:=rfl
@[simp] def Xl(ks:List Nat)(c:Prop)[Decidable c](a b:bx):iS ks (if c then a else b)=if c then iS ks a else iS ks b:=by split<;>rfl
def ox(rs:List RV)(n:Nat):bx->Option Out
 |some (.exit _,_)=>none
 |some (_,s)=>if X.clean.bC (cJ rs s).1=true/\(cJ rs s).1.any X.jm=false then some (oV (cJ rs s).1,lQ 0 n (cJ rs s).2) else none
 |none=>none
def AZ(rs:List RV)(n:Nat)(s:af):Option Out:=if X.clean.bC (cJ rs s).1=true/\(cJ rs s).1.any X.jm=false then some (oV (cJ rs s).1,lQ 0 n (cJ rs s).2) else none
def az{L:bw}{T:fU}{f:FuncId}{b:A}{rs:List RV}{n:Nat}(h:T f=some ⟨b,rs,n⟩){xs:List X}(hl:xs.length=n):ev L T f xs=ox rs n (aD (ev L T) (aH T) b (jE xs)):=by rw[Lw h];unfold wH;rw[aA hl];rfl
@[simp] def V6(rs:List RV)(n:Nat)(s:af):ox rs n (some (.ret,s))=AZ rs n s:=rfl
@[simp] def V5(rs:List RV)(n:Nat)(s:af):ox rs n (some (.normal,s))=AZ rs n s:=rfl
@[simp] def V4(rs:List RV)(n:Nat):ox rs n none=none:=rfl
@[simp] def V3(rs:List RV)(n:Nat)(c:Prop)[Decidable c](a b:bx):ox rs n (if c then a else b)=if c then ox rs n a else ox rs n b:=by split<;>rfl
@[simp] def Xr(d:Option Nat)(s:af)(r:X)(ps:List X):lR d s (some (r,ps))=some (dN d r s):=rfl
@[simp] def Xq(d:Option Nat)(s:af):lR d s none=none:=rfl
@[simp] def Xp(d:Option Nat)(s:af)(c:Prop)[Decidable c](a b:Option Out):lR d s (if c then a else b)=if c then lR d s a else lR d s b:=by split<;>rfl
end
attribute [simp] AZ bJ jE vm vn cJ lQ post oV X.jm X.clean X.clean.bC X.clean.aR keep zk wh mG qg
end M
namespace M
open Go
def wz(z bytes:Nat):A:=(.seq (.pk [0] (.ops [⟨none,.bk 2 .aZ (.k (.row .own z []))⟩])) (.seq (.seq (.pk [0,4] (.ops [⟨none,.mv 3 (.t 0)⟩,⟨none,.nx 4 false (.t 3)⟩])) (.pk [0] (.cond (.t 4) (.seq (.pk [2,7] (.ops [⟨none,.bk 2 .aZ (.k (.row .own z []))⟩])) .ret) .skip))) (.seq (.pk [2,7] (.ops [⟨none,.lit 5 .mv z []⟩,⟨none,.mv 6 (.t 0)⟩,⟨none,.app 7 .al z bytes (.t 5) (.t 6)⟩,⟨none,.bk 2 .aZ (.t 7)⟩])) .ret)))
def EW:∀{rows:List (List X)},fP rows=true->X.clean.aR rows=true
 |[],_=>rfl
 |e::l,h=>by
  simp only[fP,au,kV] at h
  have h1:X.clean.bC e=true:=by
   have h2:=h.1;clear h;induction e with
   |nil=>rfl
   |cons x e ih=>have hx:=h2 x (bE ..);have he:=ih λy hy=>h2 y (bU _ hy);cases x<;>simp_all[scalar,X.clean.bC,X.clean]
  simp only[X.clean.aR,h1,EW h.2,Bool.and_self]
def Lg[Bs]{P:Program}{f:FuncId}{z bytes:Nat}(hT:Told P f (wz z bytes) [.t 2] 1){rows:List (List X)}(h1:rows.length*bytes<=140737488355328)(h2:fP rows=true)(h4:lT rows=true\/rows=[]):
  AC P f [.row .ah z rows] λr ps=>r=.row .own z rows/\ps=[.dead]:=by
 refine hT.ac rfl ?_;have h3:=CR h2;have h5:=EW h2;simp[wz,cX,gS,k8,aI,base,Ends,h1,h3,h5];intro h6;rcases h4 with h4|h4;·rw[h4] at h6;cases h6
 ·subst h4;simp
def ki(f0 z bytes:Nat):bw:=λf xs=>if f=f0 then (match xs with
 |[.row .ah z' rows]=>if z'=z/\rows.length*bytes<=140737488355328/\fP rows=true/\(lT rows=true\/rows=[]) then some (.row .own z rows,[.dead]) else none
 |_=>none) else none
def Lf[Bs]{P:Program}{f0 z bytes:Nat}(hT:Told P f0 (wz z bytes) [.t 2] 1):(ki f0 z bytes).Sound P:=λf xs o h=>by
 unfold ki at h;split at h
 ·rename_i hf;subst hf;split at h
  ·split at h;·rename_i hc;obtain⟨rfl,c1,c2,c3⟩:=hc;cases h;exact Lg hT c1 c2 c3
   ·cases h
  ·cases h
 ·cases h
def gL(L L':bw):bw:=λf xs=>match L f xs with
 |some o=>some o
 |none=>L' f xs
def q6[Bs]{P:Program}{L L':bw}(h:L.Sound P)(h':L'.Sound P):(gL L L').Sound P:=λf xs o e=>by
 unfold gL at e;split at e;·rename_i o' e';cases e;exact h f xs _ e'
 ·exact h' f xs _ e
end M
namespace M
open Go
def sv:X->Value
 |.int k n=>.int k n
 |.bool b=>.bool b
 |.str s=>.string s
 |_=>undef
def RG{c:C}(h:scalar c.er=true):c.val=sv c.er:=by cases c<;>first|rfl|(simp[C.er,scalar] at h)
def vp:X->Bool
 |.str s=>decide (s.size<=9223372036854775807)
 |x=>scalar x
def jq(f0:FuncId)(g:List X->Option X):bw:=λf xs=>if f=f0 then (match g xs with
 |some r=>if xs.all scalar=true/\vp r=true then some (r,xs.map λ_=>.dead) else none
 |none=>none) else none
end M
namespace M
open Go Go.Sort
def j9[B:Bs](w:World):Prop:=∀b,b<B.W0.heap.size->w.heap[b]?=B.W0.heap[b]?
def JX[Bs]{P:Program}{f:FuncId}{xs:List X}{r:X}(hx:∀x∈xs,scalar x=true)(hr:vp r=true)
  (h:∀w,j9 w->Calls P f (xs.map sv).toArray w λe w'=>e=.returned (sv r)/\∃k os,w'=grow (w.drewN k) os):AC P f xs λr' ps=>r'=r/\ps=xs.map λ_=>.dead:=by
 intro w zl zb cs e hA jL;have hv:cs.map C.val=xs.map sv:=by rw[<-e,bT];exact bn λc hc=>RG (hx _ (e▸gR hc))
 rw[hv];refine(h w λb hb=>(jL b hb).1).mono λe' w' ⟨he,k,os,hw⟩=>?_;subst hw;have hsz:w.heap.size<=(grow (w.drewN k) os).heap.size:=by simp[grow,World.drewN]
 have hs:∃c:C,c.er=r/\c.val=sv r/\c.ok (grow (w.drewN k) os) (Zf zl λ_ _=>False)/\c.bare/\∀b k,¬c.fp b k:=by
  cases r with
  |int k n=>exact⟨.int k n,rfl,rfl,trivial,trivial,λ_ _ h=>h⟩
  |bool b=>exact⟨.bool b,rfl,rfl,trivial,trivial,λ_ _ h=>h⟩
  |str s=>exact⟨.str s,rfl,rfl,by simp[vp] at hr;exact hr,trivial,λ_ _ h=>h⟩
  |_=>simp[vp,scalar] at hr
 obtain⟨c,c1,c2,c3,c4,c5⟩:=hs;have Bl:Ext (λb k=>∃x∈cs,x.fp b k) w (grow (w.drewN k) os):=⟨rfl,rfl,rfl,hsz,λb hb=>.inl (by show (w.heap++os)[b]?=w.heap[b]?;exact Dz hb)⟩
 refine⟨c,cs.map λx=>.dead x.val,zl,⟨by rw[he,c2],by rw[bT];rfl,Bl,⟨λx hx'=>?_,λx hx'=>?_,λx hx' b k hf=>?_,λb k hz=>iy (hA.bF b k (hz.imp id λh=>h.elim)) hsz,?_⟩,λx hx' b k hf=>?_,λ_ _ h=>h,λ_ _ h=>.inl h⟩,c1,?_⟩
 ·rcases bA.1 hx' with rfl|hx';·exact c3
  ·obtain⟨y,_,rfl⟩:=aL.1 hx';trivial
 ·rcases bA.1 hx' with rfl|hx';·exact c4
  ·obtain⟨y,_,rfl⟩:=aL.1 hx';trivial
 ·rcases bA.1 hx' with rfl|hx';·exact(c5 b k hf).elim
  ·obtain⟨y,_,rfl⟩:=aL.1 hx';exact hf.elim
 ·refine ey.2 ⟨λx _ b k hf=>(c5 b k hf).elim,?_⟩;refine lY.2 λi j hi hj _ b k hf=>?_;obtain⟨y,_,hy⟩:=aL.1 (dy hi);rw[<-hy] at hf;exact hf.elim
 ·rcases bA.1 hx' with rfl|hx';·exact(c5 b k hf).elim
  ·obtain⟨y,_,rfl⟩:=aL.1 hx';exact hf.elim
 ·rw[<-e];simp[bT,Dy,C.er]
def ND[Bs]{P:Program}{f0:FuncId}{g:List X->Option X}(h:∀xs r,g xs=some r->∀w,j9 w->Calls P f0 (xs.map sv).toArray w λe w'=>e=.returned (sv r)/\∃k os,w'=grow (w.drewN k) os):(jq f0 g).Sound P:=λf xs o e=>by
 unfold jq at e;split at e
 ·rename_i hf;subst hf;split at e
  ·rename_i r hr;split at e;·rename_i hc;cases e;exact JX (kV.1 hc.1) hc.2 (h xs r hr)
   ·cases e
  ·cases e
 ·cases e
def TabIs.same[B:Bs]{P:Program}{w:World}{n:String}{k:IntKind}{zs:List Int}(h:Lib.TabIs P B.W0 n k zs)(hw:j9 w):Lib.TabIs P w n k zs:=by
 unfold Lib.TabIs World.var? at h⊢;cases hg:P.globalNamed n with
 |none=>rw[hg] at h;cases h
 |some g=>
  rw[hg] at h;simp only[jx] at h⊢
  have hlt:g<B.W0.heap.size:=by
   rcases fA g B.W0.heap.size with h'|h';·exact h'
   ·rw[ja h'] at h;cases h
  rw[hw g hlt];exact h
def RH{P:Program}{W:World}{name:String}{k:IntKind}{zs:List Int}{g:Nat}{t e:TypeId}{n:Nat}
  (hg:P.globalNamed name=some g)(hty:(P.globals[g]?).map (·.type)=some t)(ht:P.underlying t=some (.array n e))(he:P.underlying e=some (.int k))(hce:P.cellsOf e=1)(hct:P.cellsOf t=n):
  ∀{l:List (String×DataW Unit)} {ps:List MemPlace},DataW.LaidVars P W l ps->(name,Lib.tabData k zs)∈l->Lib.TabIs P W name k zs
 |[],_,_,h=>by cases h
 |(nm,d)::l,ps,h,hm=>by
  obtain⟨g',t',cs,fuel,p,q,hg',ht',hvar,hd,hr,_⟩:=h;rcases bA.1 hm with hm|hm;·obtain⟨rfl,rfl⟩:=zF hm;obtain rfl:=e8 (hg.symm.trans hg');obtain rfl:=e8 (hty.symm.trans ht');unfold Lib.TabIs;rw[hvar,<-Lib.cells_of_tab ht he hce hct hd]
  ·exact RH hg hty ht he hce hct hr hm
end M
namespace M
open Go
def lv:Ex×af->bx
 |(.normal,_)=>none
 |(.ret,s)=>some (.ret,s)
 |(.exit i,s)=>some (.exit i,s)
def kM{β γ:Type}(go:β->γ->γ ⊕ (Ex×af)):List β->γ->γ ⊕ (Ex×af)
 |[],g=>.inl g
 |b::l,g=>match go b g with
  |.inl g'=>kM go l g'
  |.inr o=>.inr o
def B6{xt:Nat}{β γ:Type}{f:af->bx}(l:List β)(st:Nat->γ->af)(go:β->γ->γ ⊕ (Ex×af))(E:γ->af)(Inv:Nat->γ->Prop)(g:γ)(h0:Inv 0 g)
  (h:∀i b g,l[i]?=some b->i<l.length->Inv i g->f (st i g)=(match go b g with|.inl g'=>some (.normal,st (i+1) g')|.inr o=>lv o))
  (hI:∀i b g g',l[i]?=some b->Inv i g->go b g=.inl g'->Inv (i+1) g')
  (hend:∀g,Inv l.length g->f (st l.length g)=some (.exit xt,E g)):
  aT f (st 0 g)=match kM go l g with|.inl g'=>some (.exit xt,E g')|.inr o=>lv o:=by
 suffices H:∀(r:List β) (i:Nat) (g:γ),Inv i g->l.drop i=r->i<=l.length->aT f (st i g)=match kM go r g with|.inl g'=>some (.exit xt,E g')|.inr o=>lv o from H l 0 g h0 rfl (pS _)
 intro r;induction r with
 |nil=>
  intro i g hi hr hl;have:i=l.length:=by have:=cK List.length hr;simp at this;omega
  subst this;rw[dS,hend g hi];rfl
 |cons b r ih=>
  intro i g hi hr hl
  have hlt:i<l.length:=by
   rcases fA i l.length with h|h;·exact h
   ·rw[I9 h] at hr;cases hr
  have hb:l[i]?=some b:=by have:=su hlt;rw[hr] at this;rw[bH hlt];cases this;rfl
  have hr':l.drop (i+1)=r:=by have:=su hlt;rw[hr] at this;cases this;rfl
  rw[dS,h i b g hb hlt hi];unfold kM;cases hg:go b g with
  |inl g'=>exact ih (i+1) g' (hI i b g g' hb hi hg) hr' hlt
  |inr o=>obtain⟨e,s⟩:=o;cases e<;>simp[dG,lv]
def cj{α:Type}(p:α->Bool)(l:List α):Bool:=l.all p
def iB{α:Type}{p:α->Bool}{l:List α}:cj p l=true↔∀x∈l,p x=true:=kV
def kC{xt:Nat}{β:Type}{f:af->bx}(l:List β)(st:Nat->af)(p:β->Bool)(R E:af)
  (h:∀i b,l[i]?=some b->i<l.length->f (st i)=if p b=true then some (.normal,st (i+1)) else some (.ret,R))
  (hend:f (st l.length)=some (.exit xt,E)):
  aT f (st 0)=if cj p l=true then some (.exit xt,E) else some (.ret,R):=by
 show _=if l.all p=true then _ else _
 have H:=B6 (f:=f) l (λi (_:Unit)=>st i) (λb _=>if p b=true then .inl () else .inr (.ret,R)) (λ_=>E) (λ_ _=>True) () trivial
  (λi b g hb hl _=>by rw[h i b hb hl];by_cases hp:p b=true<;>simp[hp,lv]) (λ_ _ _ _ _ _ _=>trivial) λ_ _=>hend
 refine H.trans ?_
 have:∀r:List β,kM (λb (_:Unit)=>if p b=true then .inl () else .inr (Ex.ret,R)) r ()=if r.all p=true then .inl () else .inr (.ret,R):=by
  intro r;induction r with
  |nil=>rfl
  |cons b r ih=>
   simp only[kM];by_cases hp:p b=true;·simp[hp,ih]
   ·simp[hp]
 rw[this];by_cases hp:l.all p=true<;>simp[hp,lv]
def B5{xt:Nat}{β γ:Type}{f:af->bx}(l:List β)(st:Nat->γ->af)(go:γ->β->γ)(E:γ->af)(Inv:Nat->γ->Prop)(g:γ)(h0:Inv 0 g)
  (h:∀i b g,l[i]?=some b->i<l.length->Inv i g->f (st i g)=some (.normal,st (i+1) (go g b)))
  (hI:∀i b g,l[i]?=some b->Inv i g->Inv (i+1) (go g b))
  (hend:∀g,Inv l.length g->f (st l.length g)=some (.exit xt,E g)):
  aT f (st 0 g)=some (.exit xt,E (l.foldl go g)):=by
 refine(B6 (f:=f) l st (λb g=>.inl (go g b)) E Inv g h0 h (λi b g g' hb hi e=>by cases e;exact hI i b g hb hi) hend).trans ?_
 have:∀(r:List β) (g:γ),kM (λb g=>.inl (go g b)) r g=(.inl (r.foldl go g):γ ⊕ (Ex×af)):=by
  intro r;induction r with
  |nil=>intro g;rfl
  |cons b r ih=>intro g;simp only[kM,zN];exact ih _
 rw[this]
def GO{xt:Nat}{β:Type}{f:af->bx}(l:List β)(st:Nat->af)(E:af)
  (h:∀i b,l[i]?=some b->i<l.length->f (st i)=some (.normal,st (i+1)))
  (hend:f (st l.length)=some (.exit xt,E)):aT f (st 0)=some (.exit xt,E):=
 B5 l (λi (_:Unit)=>st i) (λ_ _=>()) (λ_=>E) (λ_ _=>True) () trivial (λi b _ hb hl _=>h i b hb hl) (λ_ _ _ _ _=>trivial) λ_ _=>hend
def cD{n:Int}(h1:-9223372036854775808<=n)(h2:n<=9223372036854775807):IntKind.i64.wrap n=n:=by simp only[IntKind.wrap,IntKind.signed,IntKind.bits,Dx,aP];split<;>rename_i h<;>simp at h<;>omega
def cq(n:Nat)(h:n<9223372036854775807):IntKind.i64.wrap (↑n+1)=↑n+1:=cD (by omega) (by omega)
attribute [simp] base za eN look bZ bW b7 wm x8 uI ig eX
abbrev ai:=List UInt8
@[simp] def Xu(s:ai):ByteArray.size ⟨s.toArray⟩=s.length:=by simp[ByteArray.size]
@[simp] def str_inj(s t:ai):((⟨s.toArray⟩:ByteArray)=⟨t.toArray⟩)↔s=t:=by
 constructor
 ·intro h;injection h with h
  simpa using cK Array.toList h
 ·rintro rfl;rfl
def kT(s t:ai):(⟨s.toArray⟩:ByteArray)++⟨t.toArray⟩=⟨(s++t).toArray⟩:=by apply ByteArray.ext;rw[ByteArray.data_append];simp
@[simp] def eS(s:ai):List X:=[.str ⟨s.toArray⟩]
structure Wr where
 at_:Int
 text:ai
 deriving DecidableEq
structure mh where
 cells:List ai
 pending:List Wr
 deriving DecidableEq
@[simp] def eW(w:Wr):List X:=[.int .i64 w.at_,.str ⟨w.text.toArray⟩]
@[simp] def VE(m:Md)(d:mh):List X:=[.row m 1 (d.cells.map eS),.row m 2 (d.pending.map eW)]
@[simp] def W6(m:Md)(l:List ai):X.bq m (l.map eS)=l.map eS:=by induction l<;>simp_all[X.bq,X.cN,X.md]
@[simp] def Xa(m:Md)(l:List Wr):X.bq m (l.map eW)=l.map eW:=by induction l<;>simp_all[X.bq,X.cN,X.md]
@[simp] def U0(l:List ai):X.clean.aR (l.map eS)=true:=by induction l<;>simp_all[X.clean.aR,X.clean.bC,X.clean]
@[simp] def U4(l:List Wr):X.clean.aR (l.map eW)=true:=by induction l<;>simp_all[X.clean.aR,X.clean.bC,X.clean]
def PA{α β:Type}(l:List α)(e:α->β)(z:β)(g:β->β){i:Nat}(hi:i<l.length)(hg:g z=e l[i]):
  ((l.take i).map e++List.replicate (l.length - i) z).modify i g=(l.take (i+1)).map e++List.replicate (l.length - (i+1)) z:=by
 apply gy;intro j;rw[vN];rcases Nat.lt_trichotomy j i with h|h|h;·rw[mc (by simp;omega),mc (by simp;omega)];simp only[cg,List.getElem?_take,aA h,aA (Nat.lt_succ_of_lt h),aC (Nat.ne_of_gt h)];cases l[j]?<;>rfl
 ·subst h;rw[jy (by simp;omega),mc (by simp;omega)];have:j - ((l.take j).map e).length=0:=by simp;omega
  rw[this,Jb (by omega)];simp only[cg,List.getElem?_take,aA (Nat.lt_succ_self j),bH hi,cU,bM,<-hg];rfl
 ·rw[jy (by simp;omega),jy (by simp;omega)];have h1:j - ((l.take i).map e).length=j - i:=by simp;omega
  have h2:j - ((l.take (i+1)).map e).length=j - (i+1):=by simp;omega
  rw[h1,h2,DF,DF];by_cases h3:j<l.length;·rw[aA (by omega),aA (by omega)];simp only[Nat.ne_of_lt h,iZ];rfl
  ·rw[aC (by omega),aC (by omega)];rfl
def iG(rows:List (List X))(i:Nat)(z:List X):List (List X):=rows.take i++List.replicate (rows.length - i) z
@[simp] def V0(rows:List (List X))(i:Nat)(z:List X):(iG rows i z).length=rows.length:=by simp[iG];omega
@[simp] def LH(rows:List (List X))(i:Nat)(z:List X)(h:i<rows.length):(iG rows i z)[i]?=some z:=by unfold iG;rw[jy (by simp;omega),Jb (by simp;omega)]
@[simp] def VZ(rows:List (List X))(i:Nat)(z:List X)(h:i<(iG rows i z).length):(iG rows i z)[i]=z:=by
 have h':i<rows.length:=by simpa using h
 have:=LH rows i z h';rw[bH h] at this;exact e8 this
@[simp] def V2(rows:List (List X))(z:List X):iG rows 0 z=List.replicate rows.length z:=by simp[iG]
@[simp] def VY(rows:List (List X))(i:Nat)(z:List X)(h:i=rows.length):iG rows i z=rows:=by subst h;simp[iG]
@[simp] def V1(rows:List (List X))(i:Nat)(z:List X)(g:List X->List X)(h:i<rows.length)(hg:g z=rows[i]):(iG rows i z).modify i g=iG rows (i+1) z:=by have:=PA rows id z g h (by simpa using hg);simpa [iG] using this
def Jj{α β:Type}:∀{a:List α} {b:List β},a.length=b.length->∃ps:List (α×β),a=ps.map Prod.fst/\b=ps.map Prod.snd
 |[],[],_=>⟨[],rfl,rfl⟩
 |x::a,y::b,h=>by obtain⟨ps,h1,h2⟩:=Jj (a:=a) (b:=b) (by simpa using h);exact⟨(x,y)::ps,by simp[<-h1],by simp[<-h2]⟩
 |[],_::_,h=>by cases h
 |_::_,[],h=>by cases h
def qp{α:Type}[DecidableEq α](x:α×α):Bool:=decide (x.1=x.2)
def D8{α:Type}[DecidableEq α]:∀ps:List (α×α),cj qp ps=decide (ps.map Prod.fst=ps.map Prod.snd)
 |[]=>rfl
 |x::ps=>by have:=D8 ps;unfold cj at this⊢;simp only[List.all_cons,this,qp,aS,sn];exact(Bool.decide_and ..).symm
def kj(new old:List (List X))(i:Nat):List (List X):=new.take i++old.drop i
@[simp] def Fp(new old:List (List X))(i:Nat)(h:new.length=old.length):(kj new old i).length=old.length:=by simp[kj];omega
@[simp] def LG(new old:List (List X))(i:Nat)(h:new.length=old.length)(hi:i<old.length):(kj new old i)[i]?=old[i]?:=by unfold kj;rw[jy (by simp;omega),sy];congr 1;simp;omega
@[simp] def VW(new old:List (List X))(i:Nat)(hl:i<(kj new old i).length)(h:new.length=old.length):(kj new old i)[i]=old[i]'(by rw[Fp _ _ _ h] at hl;exact hl):=by
 have hi:i<old.length:=by rw[Fp _ _ _ h] at hl;exact hl
 have:=LG new old i h hi;rw[bH hl,bH hi] at this;exact e8 this
@[simp] def VX(new old:List (List X)):kj new old 0=old:=by simp[kj]
@[simp] def VV(new old:List (List X))(i:Nat)(h:new.length=old.length)(hi:i=old.length):kj new old i=new:=by subst hi;rw[<-h];simp[kj];omega
def oQ(n:Nat)(out:ai):ai:=if h:n=0 then out else oQ (n / 10) (UInt8.ofNat (48+n%10)::out)
termination_by n
decreasing_by omega
def ug(k:Int):ai:=if k<=0 then [109,48] else 109::oQ k.toNat []
def uh(n:Nat)(k:Int):List ai:=(List.range n).map λ(i:Nat)=>ug (k+i)
def uj(n:Nat)(k:Int):List Wr:=(List.range n).map λ(i:Nat)=>⟨k+2*i,ug (k+2*i+1)⟩
@[simp] def WM(n:Nat)(k:Int):(uh n k).length=n:=by simp[uh]
@[simp] def WO(n:Nat)(k:Int):(uj n k).length=n:=by simp[uj]
@[simp] def WL(n:Nat)(k:Int)(i:Nat)(h:i<(uh n k).length):(uh n k)[i]=ug (k+i):=by simp[uh]
@[simp] def WN(n:Nat)(k:Int)(i:Nat)(h:i<(uj n k).length):(uj n k)[i]=⟨k+2*i,ug (k+2*i+1)⟩:=by simp[uj]
def foldI{β γ:Type}(go:Nat->γ->β->γ):Nat->List β->γ->γ
 |_,[],g=>g
 |i,b::l,g=>foldI go (i+1) l (go i g b)
def xX{xt:Nat}{β γ:Type}{f:af->bx}(l:List β)(st:Nat->γ->af)(go:Nat->γ->β->γ)(E:γ->af)(Inv:Nat->γ->Prop)(g:γ)(h0:Inv 0 g)
  (h:∀i b g,l[i]?=some b->i<l.length->Inv i g->f (st i g)=some (.normal,st (i+1) (go i g b)))
  (hI:∀i b g,l[i]?=some b->Inv i g->Inv (i+1) (go i g b))
  (hend:∀g,Inv l.length g->f (st l.length g)=some (.exit xt,E g)):
  aT f (st 0 g)=some (.exit xt,E (foldI go 0 l g)):=by
 suffices H:∀(r:List β) (i:Nat) (g:γ),Inv i g->l.drop i=r->i<=l.length->aT f (st i g)=some (.exit xt,E (foldI go i r g)) from H l 0 g h0 rfl (pS _)
 intro r;induction r with
 |nil=>
  intro i g hi hr hl;have:i=l.length:=by have:=cK List.length hr;simp at this;omega
  subst this;rw[dS,hend g hi];rfl
 |cons b r ih=>
  intro i g hi hr hl
  have hlt:i<l.length:=by
   rcases fA i l.length with h|h;·exact h
   ·rw[I9 h] at hr;cases hr
  have hd:=su hlt;rw[hr] at hd;have hb:l[i]?=some b:=by rw[bH hlt];cases hd;rfl
  have hr':l.drop (i+1)=r:=by cases hd;rfl
  rw[dS,h i b g hb hlt hi];exact ih (i+1) _ (hI i b g hb hi) hr' hlt
@[simp] def Xb(cs:List ai)(n:Nat)(t:ai):(cs.map eS).modify n (λx=>x.set 0 (X.str ⟨t.toArray⟩))=(cs.set n t).map eS:=by
 apply gy;intro j;rw[vN,cg,cg,zP];by_cases h:n=j
 ·subst h;simp only[cU];by_cases h2:n<cs.length;·simp[h2]
  ·simp[h2,iz (Nat.le_of_not_lt h2)]
 ·simp only[h,iZ];cases cs[j]?<;>rfl
@[simp] def eB(b:Bool):List X:=[.bool b]
@[simp] def WR(m:Md)(l:List Bool):X.bq m (l.map eB)=l.map eB:=by induction l<;>simp_all[X.bq,X.cN,X.md]
@[simp] def UN(l:List Bool):X.clean.aR (l.map eB)=true:=by induction l<;>simp_all[X.clean.aR,X.clean.bC,X.clean]
def Ro(l:List ai):fP (l.map eS)=true:=by induction l<;>simp_all[fP,scalar]
def Rr(l:List Wr):fP (l.map eW)=true:=by induction l<;>simp_all[fP,scalar]
attribute [simp] Ro Rr
@[simp] def UM(a b:List (List X)):X.clean.aR (a++b)=(X.clean.aR a && X.clean.aR b):=by
 induction a with
 |nil=>simp[X.clean.aR]
 |cons e a ih=>simp[X.clean.aR,ih,Bool.and_assoc]
@[simp] def WQ(m:Md)(a b:List (List X)):X.bq m (a++b)=X.bq m a++X.bq m b:=by
 induction a with
 |nil=>simp[X.bq]
 |cons e a ih=>simp[X.bq,ih]
structure aN where
 code:List UInt8
 i:Nat
 h:Int
 hi:i<=code.length
 hl:code.length<=9223372036854775807
@[simp] def eU(b:UInt8):List X:=[.int .u8 (b.toNat:Int)]
@[simp] def W9(m:Md)(l:List UInt8):X.bq m (l.map eU)=l.map eU:=by induction l<;>simp_all[X.bq,X.cN,X.md]
@[simp] def U3(l:List UInt8):X.clean.aR (l.map eU)=true:=by induction l<;>simp_all[X.clean.aR,X.clean.bC,X.clean]
def aJ(c:aN):List X:=[.row .sl 1 (c.code.map eU),.int .i64 c.i,.int .i64 c.h]
@[simp] def Vx(c:aN):(aJ c).length=3:=rfl
@[simp] def Vz(c:aN):(aJ c).take 3=aJ c:=rfl
@[simp] def Vu(c:aN):(aJ c).drop 3=[]:=rfl
@[simp] def Vy(ks:List Nat)(c:aN):X.kI ks (aJ c)=aJ c:=rfl
@[simp] def Vv(r:Nat)(p:Path)(c:aN):X.ek r p (aJ c)=aJ c:=rfl
@[simp] def Vw(r:Nat)(p:Path)(c:aN):X.lM r p (aJ c)=aJ c:=rfl
@[simp] def Vt(c:aN):X.clean.bC (aJ c)=true:=by simp[aJ,X.clean.bC,X.clean]
@[simp] def Vs(c:aN):X.bare.fD (aJ c)=true:=by simp[aJ,X.bare.fD,X.bare]
def D9(n:Int):IntKind.i64.wrap (((n%2^IntKind.i64.bits).toNat &&& 255%2^IntKind.i64.bits:Nat):Int)=n%256:=by
 have e:255%2^IntKind.i64.bits=2^8 - 1:=by decide
 have e2:(2:Int)^IntKind.i64.bits=18446744073709551616:=by decide
 rw[e,Nat.and_two_pow_sub_one_eq_mod,IntKind.wrap_i64,e2];omega
def Pb{xt:Nat}{γ:Type}{f:af->bx}(n:Nat)(st:Nat->γ->af)(Inv:Nat->γ->Prop)(E:γ->af)(g:γ)(h0:Inv 0 g)
  (h:∀i g,i<n->Inv i g->∃g',f (st i g)=some (.normal,st (i+1) g')/\Inv (i+1) g')
  (hend:∀g,Inv n g->f (st n g)=some (.exit xt,E g)):∃g',Inv n g'/\aT f (st 0 g)=some (.exit xt,E g'):=by
 suffices H:∀k i g,i+k=n->Inv i g->∃g',Inv n g'/\aT f (st i g)=some (.exit xt,E g') from H n 0 g (by omega) h0
 intro k;induction k with
 |zero=>
  intro i g hi hI;obtain rfl:i=n:=by omega
  exact⟨g,hI,by rw[dS,hend g hI];rfl⟩
 |succ k ih=>intro i g hi hI;obtain⟨g1,e1,NR⟩:=h i g (by omega) hI;obtain⟨g2,Be,e2⟩:=ih (i+1) g1 (by omega) NR;exact⟨g2,Be,by rw[dS,e1];exact e2⟩
end M
namespace M
open Go Go.RowKit
inductive Ty where
 |int (k:IntKind)
 |bool
 |str
 |row (ts:List Ty)
inductive fB:Ty->X->Prop
 |int {k n}:(Lit.int k n).wf=true->fB (.int k) (.int k n)
 |bool {b}:fB .bool (.bool b)
 |str {s:ByteArray}:s.size<=maxLen->fB .str (.str s)
 |row {ts xs}:xs.length<=maxLen->(∀r:List X,r∈xs->r.length=ts.length)->(∀(r:List X),r∈xs->∀(j:Nat) ty x,ts[j]?=some ty->r[j]?=some x->fB ty x)->fB (.row ts) (.row .sl ts.length xs)
structure vR (w:World) (ty:Ty) (c:C):Prop where
 cell:c.cell
 bX:c.bX
 fits:c.fits .sl
 ok:c.ok w (Zf (λb _=>b<w.heap.size) λ_ _=>False)
 fp:∀b k,¬c.fp b k
 sS:fB ty c.er
def iH(w:World):List Ty->List Value->List C->Prop
 |[],[],[]=>True
 |ty::ts,v::vs,c::cs=>c.val=v/\vR w ty c/\iH w ts vs cs
 |_,_,_=>False
def FU{w:World}:∀{ts:List Ty} {vs:List Value} {cs:List C} {ts':List Ty} {vs':List Value} {cs':List C},iH w ts vs cs->iH w ts' vs' cs'->iH w (ts++ts') (vs++vs') (cs++cs')
 |[],[],[],_,_,_,_,h=>h
 |_::_,_::_,_::_,_,_,_,⟨h1,h2,h3⟩,h=>⟨h1,h2,FU h3 h⟩
def FV{w:World}:∀{ts:List Ty} {vs:List Value} {cs:List C},iH w ts vs cs->vs.length=ts.length/\cs.length=ts.length/\vs=cs.map C.val
 |[],[],[],_=>⟨rfl,rfl,rfl⟩
 |_::_,_::_,_::_,⟨h1,h2,h3⟩=>by obtain⟨e1,e2,e3⟩:=FV h3;exact⟨by simp[e1],by simp[e2],by simp[h1,<-e3]⟩
def Bb{w:World}:∀{ts:List Ty} {vs:List Value} {cs:List C},iH w ts vs cs->∀{j:Nat},j<ts.length->∃ty c,ts[j]?=some ty/\cs[j]?=some c/\vs[j]?=some c.val/\vR w ty c
 |ty::ts,v::vs,c::cs,⟨h1,h2,h3⟩,0,_=>⟨ty,c,rfl,rfl,by simp[h1],h2⟩
 |ty::ts,v::vs,c::cs,⟨h1,h2,h3⟩,j+1,h=>by obtain⟨ty,c,a1,a2,a3,a4⟩:=Bb h3 (j:=j) (by simpa using h);exact⟨ty,c,by simpa using a1,by simpa using a2,by simpa using a3,a4⟩
def rY(P:Program)(r:TypeId->Option (List Ty)):Nat->List Field->Option (List Ty)
 |_,[]=>some []
 |o,f::fs=>if f.offset=o then (r f.type).bind λts=>if ts.length=P.cellsOf f.type then (rY P r (o+ts.length) fs).map (ts++·) else none else none
def fR(P:Program):Nat->Bool->TypeId->Option (List Ty)
 |0,_,_=>none
 |n+1,deep,t=>match P.underlying t with
  |some .bool=>some [.bool]
  |some (.int k)=>some [.int k]
  |some .string=>some [.str]
  |some (.slice e)=>if deep then (fR P n true e).bind λts=>if ts.length=P.cellsOf e/\0<P.cellsOf e then some [.row ts] else none else none
  |some (.struct fs)=>(rY P (fR P n deep) 0 fs.toList).bind λts=>if ts.length=P.cellsOf t then some ts else none
  |_=>none
section
variable {H:Type}{enc:TypeId×Value->H}{P:Program}{w:World}{sp:Nat->Bool}{held:Bool}
def Il{r:TypeId->Option (List Ty)}{cs:List Value}
  (hr:∀t ts fuel cs' x,r t=some ts->DataW.trod enc P w 0 sp held fuel t cs'=some x->(∀v∈cs',v∈cs)->∃Cs,iH w ts cs' Cs):
  ∀(fs:List Field) (o:Nat) (ts:List Ty),rY P r o fs=some ts->(∀f∈fs,∃fuel x,DataW.trod enc P w 0 sp held fuel f.type ((cs.drop f.offset).take (P.cellsOf f.type))=some x)->
   ∃Cs,iH w ts ((cs.drop o).take ts.length) Cs
 |[],o,ts,h,_=>by cases h;exact⟨[],by simp[iH]⟩
 |f::fs,o,ts,h,hx=>by
  simp only[rY] at h;split at h
  ·rename_i ho;simp only[iX] at h;obtain⟨t1,h1,h⟩:=h;split at h;·rename_i hl;simp only[nU] at h;obtain⟨t2,h2,rfl⟩:=h;obtain⟨fuel,x,hf⟩:=hx f (bE ..);obtain⟨C1,g1⟩:=hr _ _ _ _ _ h1 hf λv hv=>List.mem_of_mem_drop (DM hv);obtain⟨C2,g2⟩:=Il hr fs _ _ h2 λf hf=>hx f (bU _ hf);refine⟨C1++C2,?_⟩;rw[fT,List.take_add,List.drop_drop];rw[ho,<-hl] at g1;exact FU g1 g2
   ·cases h
  ·cases h
def RA{w:World}{g o n m:Nat}{spot:Option Nat}{vs:List Value}(hn:0<n)(h:w.cells? 0 ((⟨g,o,spot⟩:Addr).add (0*m)) n=some vs):spot=none:=by
 obtain⟨_,hl,e3⟩:=World.cells?_some h;have e4:=e3 0 hn;have:∃v,vs[0]?=some v:=⟨vs[0],bH (by omega)⟩;obtain⟨v,hv⟩:=this;rw[hv] at e4;have ha:((⟨g,o,spot⟩:Addr).add (0*m)).add 0=⟨g,o,spot⟩:=by simp[Addr.add]
 rw[ha] at e4;unfold World.cell? at e4;cases spot with
 |none=>rfl
 |some k=>
  split at e4;·simp at e4
  ·cases e4
def trod_good:∀(n:Nat) (deep:Bool) (t:TypeId) (ts:List Ty),fR P n deep t=some ts->∀(fuel:Nat) (cs:List Value) (x:DataW H×List MemPlace),DataW.trod enc P w 0 sp held fuel t cs=some x->∃Cs,iH w ts cs Cs
 |0,_,_,_,h,_,_,_,_=>by cases h
 |n+1,deep,t,ts,h,fuel,cs,x,hx=>by
  simp only[fR] at h;split at h;·rename_i hu;cases h;obtain⟨b,rfl,rfl⟩:=DataW.trod_bool hu hx;exact⟨[.bool b],rfl,⟨trivial,trivial,trivial,trivial,λ_ _ h=>h,.bool⟩,trivial⟩
  ·rename_i k hu;cases h;obtain⟨m,rfl,rfl,hw⟩:=DataW.trod_int hu hx;exact⟨[.int k m],rfl,⟨trivial,trivial,trivial,trivial,λ_ _ h=>h,.int hw⟩,trivial⟩
  ·rename_i hu;cases h;obtain⟨s,rfl,rfl,hw⟩:=DataW.trod_string hu hx;exact⟨[.str s],rfl,⟨trivial,trivial,trivial,hw,λ_ _ h=>h,.str hw⟩,trivial⟩
  ·rename_i e hu;split at h
   ·rename_i hd;simp only[iX] at h;obtain⟨te,h1,h⟩:=h;split at h
    ·rename_i hl;obtain⟨hl,hpos⟩:=hl;cases h;rcases DataW.trod_slice hu hx with ⟨rfl,rfl⟩|⟨a,len,cap,elems,rest,m,rfl,rfl,rfl,_,hlc,hcm,hel,ko,_,_⟩;·refine⟨[.row .sl te.length none 0 0 λ_ _=>.dead undef],rfl,⟨trivial,trivial,.inr (.inl rfl),⟨ez _,λi j hi=>by omega,λi j hi=>by omega,λh=>(by cases h),λi j hi=>by omega⟩,λb k h=>(by cases h.1),?_⟩,trivial⟩;exact fB.row (xs:=[]) (by simp) (λr hr=>by cases hr) (λr hr=>by cases hr)
     ·obtain⟨g,o,spot⟩:=a;by_cases hl0:len=0;·subst hl0;refine⟨[.row .sl te.length (some (g,o,spot)) 0 cap λ_ _=>.dead undef],rfl,⟨trivial,trivial,.inr (.inl rfl),⟨hlc,λi j hi=>by omega,λi j hi=>by omega,λh=>(by cases h),λi j hi=>by omega⟩,λb k h=>(by cases h.1),?_⟩,trivial⟩;exact fB.row (xs:=[]) (by simp) (λr hr=>by cases hr) (λr hr=>by cases hr)
      have OI:spot=none:=by have:=ko 0 (by omega);rw[bH (by omega),iX] at this;obtain⟨vs,e1,e2⟩:=this;exact RA hpos e1
      subst OI
      have hex:∀i,∃(vs:List Value) (l:List C),i<len->w.cells? 0 ((⟨g,o,none⟩:Addr).add (i*P.cellsOf e)) (P.cellsOf e)=some vs/\iH w te vs l:=λi=>by
       by_cases hi:i<len;·have:=ko i hi;rw[bH (by omega),iX] at this;obtain⟨vs,e1,e2⟩:=this;obtain⟨l,hl⟩:=trod_good n true _ _ h1 _ _ _ e2;exact⟨vs,l,λ_=>⟨e1,hl⟩⟩
       ·exact⟨[],[],λh=>(hi h).elim⟩
      let vs:=λi=>(hex i).choose;let l:=λi=>(hex i).choose_spec.choose;have hvl:∀i,i<len->w.cells? 0 ((⟨g,o,none⟩:Addr).add (i*P.cellsOf e)) (P.cellsOf e)=some (vs i)/\iH w te (vs i) (l i):=λi=>(hex i).choose_spec.choose_spec
      have hij:∀i j,i<len->j<te.length->∃ty,te[j]?=some ty/\(l i)[j]?=some ((l i).getD j (.dead undef))/\w.cell? ⟨g,o+i*te.length+j,none⟩=some ((l i).getD j (.dead undef)).val/\vR w ty ((l i).getD j (.dead undef)):=λi j hi hj=>by
       obtain⟨e1,e2⟩:=hvl i hi;obtain⟨ty,c,a1,a2,a3,a4⟩:=Bb e2 hj;have hc:(l i).getD j (.dead undef)=c:=by rw[gP,a2];rfl
       rw[hc];obtain⟨_,_,e3⟩:=World.cells?_some e1;have e4:=e3 j (by omega);rw[a3] at e4;refine⟨ty,a1,a2,?_,a4⟩;rw[<-e4];congr 1;rw[hl];unfold Addr.add;split<;>split<;>simp_all
      have hb:∀i j,i<len->j<te.length->g<w.heap.size:=λi j hi hj=>by obtain⟨_,_,_,h3,_⟩:=hij i j hi hj;exact World.block_lt_of_cell? w _ h3
      refine⟨[.row .sl te.length (some (g,o,none)) len cap λi j=>(l i).getD j (.dead undef)],rfl,⟨trivial,trivial,.inr (.inl rfl),⟨hlc,λi j hi hj=>⟨g,o,rfl,?_,λ_=>hb i j hi hj⟩,λi j hi hj=>?_,λh=>(by cases h),λi j hi hj b k hf=>?_⟩,λb k h=>(by cases h.1),?_⟩,trivial⟩;·obtain⟨ty,_,_,h3,h4⟩:=hij i j hi hj;exact h3
      ·obtain⟨ty,_,_,h3,h4⟩:=hij i j hi hj;exact⟨h4.cell,h4.bX,h4.fits,h4.ok⟩
      ·obtain⟨ty,_,_,h3,h4⟩:=hij i j hi hj;exact(h4.fp b k hf).elim
      ·refine fB.row (by simpa using gv hlc hcm) (λr hr=>?_) λr hr j ty x hty BE=>?_;·simp only[aL,nY] at hr;obtain⟨i,_,rfl⟩:=hr;simp
       ·simp only[aL,nY] at hr;obtain⟨i,hi,rfl⟩:=hr
        have hj:j<te.length:=by
         rcases fA j te.length with h|h;·exact h
         ·rw[iz h] at hty;cases hty
        obtain⟨ty',e1,_,_,h4⟩:=hij i j hi hj;rw[e1] at hty;cases hty;rw[cg,nX hj] at BE;simp only[bM,cE] at BE;subst BE;exact h4.sS
    ·cases h
   ·cases h
  ·rename_i fs hu;simp only[iX] at h;obtain⟨te,h1,h⟩:=h;split at h
   ·rename_i hl;cases h;obtain⟨xs,m,rfl,rfl,hcs,hxl,ko⟩:=DataW.trod_struct hu hx
    obtain⟨Cs,hC⟩:=Il (cs:=cs) (λt ts' fuel cs' x hr ht hm=>trod_good n deep t ts' hr fuel cs' x ht) fs.toList 0 ts h1 λf hf=>by
     obtain⟨i,hi,rfl⟩:=zR hf;have hi':i<fs.size:=by simpa using hi
     have:=ko i (fs[i]) (by simp[hi']);rw[bH (by omega)] at this;exact⟨_,_,by simpa using this⟩
    refine⟨Cs,?_⟩;rw[List.drop_zero,hl,<-hcs,r7] at hC;exact hC
   ·cases h
  ·cases h
def C6:∀(n:Nat) (deep:Bool) (t:TypeId) (ts:List Ty),fR P n deep t=some ts->∀(fuel:Nat) (cs:List Value) (x:DataW H×List MemPlace),DataW.trod enc P w 0 (λ_=>true) held fuel t cs=some x->DataW.trod enc P w 0 (λb=>decide (b<w.heap.size)) held fuel t cs=some x
 |0,_,_,_,h,_,_,_,_=>by cases h
 |n+1,deep,t,ts,h,0,cs,x,hx=>by simp[DataW.trod] at hx
 |n+1,deep,t,ts,h,fuel+1,cs,x,hx=>by
  simp only[fR] at h;split at h;·rename_i hu;obtain⟨b,rfl,rfl⟩:=DataW.trod_bool hu hx;simp[DataW.trod,hu]
  ·rename_i k hu;obtain⟨m,rfl,rfl,hw⟩:=DataW.trod_int hu hx;simp[DataW.trod,hu,hw]
  ·rename_i hu;obtain⟨s,rfl,rfl,hw⟩:=DataW.trod_string hu hx;simp[DataW.trod,hu,hw]
  ·rename_i e hu;split at h
   ·simp only[iX] at h;obtain⟨te,h1,h⟩:=h;split at h
    ·rename_i hl;obtain⟨hl,hpos⟩:=hl;rcases DataW.trod_slice hu hx with ⟨rfl,rfl⟩|⟨a,len,cap,elems',rest',m,_,rfl,_⟩;·simp[DataW.trod,hu]
     ·unfold DataW.trod at hx⊢;simp only[hu] at hx⊢;split at hx
      ·rename_i hc;rw[aA hc];simp only[nU,iX,cU] at hx⊢;obtain⟨elems,he,rest,oD,rfl⟩:=hx;have one:∀(i:Nat) (y:DataW H×List MemPlace),(w.cells? 0 (a.add (i*P.cellsOf e)) (P.cellsOf e)).bind (DataW.trod enc P w 0 (λ_=>true) held fuel e)=some y->(w.cells? 0 (a.add (i*P.cellsOf e)) (P.cellsOf e)).bind (DataW.trod enc P w 0 (λb=>decide (b<w.heap.size)) held fuel e)=some y:=λi y hv=>by simp only[iX] at hv⊢;obtain⟨cs',gG,hy'⟩:=hv;exact⟨cs',gG,C6 n true _ _ h1 _ _ _ hy'⟩
       refine⟨elems,mapM_carry he λi y _ _ hv=>one i y hv,rest,?_,rfl⟩;by_cases hb:a.block<w.heap.size;·rw[aA (by simpa using hb)];exact mapM_carry oD λi y _ _ hv=>one (len+i) y hv
       ·rw[aC (by simpa using hb)]
        have:cap - len=0:=by
         rcases Dp (cap - len) with h|h;·exact h
         ·have h0:=mapM_some_get oD 0 0 (by simp[h]);have hl':0<rest.length:=by have:=mapM_some_length oD;simp at this;omega
          rw[bH hl',iX] at h0;obtain⟨vs,e1,_⟩:=h0;have:=World.cells?_block e1 hpos;refine(hb ?_).elim;unfold Addr.add at this;split at this<;>exact this
        rw[this] at oD;exact oD
      ·cases hx
    ·cases h
   ·cases h
  ·rename_i fs hu;simp only[iX] at h;obtain⟨te,h1,h⟩:=h;unfold DataW.trod at hx⊢;simp only[hu] at hx⊢
   have each:∀(o:Nat) (l:List Field) (ts:List Ty),rY P (fR P n deep) o l=some ts->∀f∈l,∃t1,fR P n deep f.type=some t1:=by
    intro o l;induction l generalizing o with
    |nil=>intro _ _ f hf;cases hf
    |cons f l ih=>
     intro ts h f' hf';simp only[rY] at h;split at h
     ·simp only[iX] at h;obtain⟨t1,e1,h⟩:=h;split at h
      ·simp only[nU] at h;obtain⟨t2,e2,_⟩:=h;rcases bA.1 hf' with rfl|hf';·exact⟨t1,e1⟩
       ·exact ih _ _ e2 f' hf'
      ·cases h
     ·cases h
   split at hx;·rename_i hc;rw[aA hc];simp only[nU] at hx⊢;obtain⟨xs,hx,rfl⟩:=hx;refine⟨xs,mapM_carry hx λf y hf _ hv=>?_,rfl⟩;obtain⟨t1,e1⟩:=each _ _ _ h1 f hf;exact C6 n deep _ _ e1 _ _ _ hv
   ·cases hx
  ·cases h
inductive jB where
 |one (ty:Ty)
 |agg (tys:List Ty)
inductive n9:jB->X->Prop
 |one {ty x}:fB ty x->n9 (.one ty) x
 |agg {tys:List Ty} {l:List X}:l.length=tys.length->(∀(j:Nat) ty x,tys[j]?=some ty->l[j]?=some x->fB ty x)->n9 (.agg tys) (.agg l)
def oc(P:Program)(t:TypeId):Option jB:=match P.underlying t with
 |some (.struct _)=>(fR P 20 true t).map .agg
 |some .bool=>some (.one .bool)
 |some (.int k)=>some (.one (.int k))
 |some .string=>some (.one .str)
 |some (.slice _)=>(fR P 20 true t).bind fun
  |[ty]=>some (.one ty)
  |_=>none
 |_=>none
def Eg{c:C}(h1:c.cell)(h2:c.bX):c.bare:=by cases c<;>first|trivial|exact h2.elim
structure DS (w:World) (a:jB) (v:Value) (c:C):Prop where
 val:c.val=v
 ok:c.ok w (Zf (λb _=>b<w.heap.size) λ_ _=>False)
 bare:c.bare
 fp:∀b k,¬c.fp b k
 sS:n9 a c.er
def wW{ty:Ty}{cs:List Value}{Cs:List C}{v:Value}(h:iH w [ty] cs Cs)(e:cs=[v]):∃c,DS w (.one ty) v c:=by
 subst e;match Cs,h with
 |[c],⟨h1,h2,_⟩=>exact⟨c,h1,h2.ok,Eg h2.cell h2.bX,h2.fp,.one h2.sS⟩
def Kb{r:Reach}{base:Nat}{t:TypeId}{v:Value}{d:DataW H}{p:List MemPlace}{a:jB}(ha:oc P t=some a)(hv:Value.okWide P w r base t v)(hd:DataW.Trod enc P w 0 sp held t v d p):∃c,DS w a v c:=by
 obtain⟨fuel,hf⟩:=hd;unfold oc at ha;split at ha
 ·rename_i fs hu;simp only[nU] at ha;obtain⟨ts,ht,rfl⟩:=ha;unfold Value.okWide at hv;rw[hu] at hv;obtain⟨cs,rfl,_,ts',_,_,hcell⟩:=hv;obtain⟨Cs,hC⟩:=trod_good _ _ _ _ ht _ _ _ hf;obtain⟨l1,l2,l3⟩:=FV hC;have ko:∀j,j<Cs.length->∃ty,ts[j]?=some ty/\vR w ty (Cs.getD j (.dead undef)):=λj hj=>by obtain⟨ty,c,a1,a2,a3,a4⟩:=Bb hC (j:=j) (by omega);exact⟨ty,a1,by rw[gP,a2];exact a4⟩
  refine⟨.agg Cs.length λj=>Cs.getD j (.dead undef),?_,⟨λj hj=>?_,λj hj b k hf=>?_⟩,λj hj=>?_,λb k ⟨j,hj,hf⟩=>?_,?_⟩;·show Value.agg _=_;congr 1;apply kU;show (List.range Cs.length).map (λj=>(Cs.getD j (.dead undef)).val)=cs.toList;have:(Value.agg cs).cells.toList=cs.toList:=rfl;rw[<-this,l3];letI:Bs:=⟨w⟩;exact jr Cs _ C.val
  ·obtain⟨_,_,h⟩:=ko j hj;exact⟨h.cell,h.ok⟩
  ·obtain⟨_,_,h⟩:=ko j hj;exact(h.fp b k hf).elim
  ·obtain⟨_,_,h⟩:=ko j hj;exact Eg h.cell h.bX
  ·obtain⟨_,_,h⟩:=ko j hj;exact h.fp b k hf
  ·refine n9.agg (by simpa using l2) λj ty x hty hx=>?_
   have hj:j<Cs.length:=by
    rcases fA j Cs.length with h|h;·exact h
    ·rw[iz (by simpa using h)] at hx;cases hx
   obtain⟨ty',e1,h⟩:=ko j hj;rw[e1] at hty;cases hty;rw[cg,nX hj] at hx;simp only[bM,cE] at hx;subst hx;exact h.sS
 ·rename_i hu;cases ha;obtain⟨Cs,hC⟩:=trod_good 1 true t [.bool] (by simp[fR,hu]) _ _ _ hf;obtain⟨b,hb,_⟩:=DataW.trod_bool hu hf;exact wW hC (v:=v) (by unfold Value.okWide at hv;rw[hu] at hv;unfold Cell.okWide at hv;rw[hu] at hv;unfold Cell.ok at hv;rw[hu] at hv;cases v<;>first|rfl|(simp at hv;done))
 ·rename_i k hu;cases ha;obtain⟨m,hb,_⟩:=DataW.trod_int hu hf;obtain⟨Cs,hC⟩:=trod_good 1 true t [.int k] (by simp[fR,hu]) _ _ _ hf;exact wW hC (v:=v) (by unfold Value.okWide at hv;rw[hu] at hv;unfold Cell.okWide at hv;rw[hu] at hv;unfold Cell.ok at hv;rw[hu] at hv;cases v<;>first|rfl|(simp at hv;done))
 ·rename_i hu;cases ha;obtain⟨m,hb,_⟩:=DataW.trod_string hu hf;obtain⟨Cs,hC⟩:=trod_good 1 true t [.str] (by simp[fR,hu]) _ _ _ hf;exact wW hC (v:=v) (by unfold Value.okWide at hv;rw[hu] at hv;unfold Cell.okWide at hv;rw[hu] at hv;unfold Cell.ok at hv;rw[hu] at hv;cases v<;>first|rfl|(simp at hv;done))
 ·rename_i e hu;simp only[iX] at ha;obtain⟨ts,ht,ha⟩:=ha;split at ha
  ·rename_i ty;cases ha;have hc:Cell.okWide P w r base t v:=by unfold Value.okWide at hv;rw[hu] at hv;exact hv
   have hv1:v.cells.toList=[v]:=by unfold Cell.okWide at hc;rw[hu] at hc;unfold Cell.ok at hc;rw[hu] at hc;cases v<;>first|rfl|(simp at hc;done)
   obtain⟨Cs,hC⟩:=trod_good _ _ _ _ ht _ _ _ hf;exact wW hC hv1
  ·cases ha
 ·cases ha
def pY:List jB->List X->Prop
 |[],[]=>True
 |a::as,x::xs=>n9 a x/\pY as xs
 |_,_=>False
def Ea{r:Reach}{base:Nat}:∀{ts:List TypeId} {as:List jB} {vs:List Value} {ds:List (DataW H)} {p:List MemPlace},ts.map (oc P)=as.map some->
  (∀(j:Nat) t v,ts[j]?=some t->vs[j]?=some v->Value.okWide P w r base t v)->DataW.TrodAll enc P w 0 sp held ts vs ds p->
  ∃cs:List C,cs.map C.val=vs/\(∀c∈cs,c.ok w (Zf (λb _=>b<w.heap.size) λ_ _=>False)/\c.bare/\∀b k,¬c.fp b k)/\pY as (cs.map C.er)
 |[],[],[],[],_,_,_,_=>⟨[],rfl,λ_ h=>(by cases h),trivial⟩
 |t::ts,a::as,v::vs,d::ds,_,ha,hv,⟨p,q,h1,h2,_⟩=>by
  simp only[aS,sn] at ha;obtain⟨c,hc⟩:=Kb ha.1 (hv 0 t v rfl rfl) h1;obtain⟨cs,e1,e2,e3⟩:=Ea ha.2 (λj t' v' ht dw=>hv (j+1) t' v' (by simpa using ht) (by simpa using dw)) h2;refine⟨c::cs,by simp[hc.val,e1],λx hx=>?_,⟨hc.sS,e3⟩⟩;rcases bA.1 hx with rfl|hx;·exact⟨hc.ok,hc.bare,hc.fp⟩
  ·exact e2 x hx
def UJ{r:Reach}{base:Nat}{ts:List TypeId}{as:List jB}{vs:List Value}{ds:List (DataW H)}{p:List MemPlace}{f:FuncId}(ha:ts.map (oc P)=as.map some)
  (hv:∀(j:Nat) t v,ts[j]?=some t->vs[j]?=some v->Value.okWide P w r base t v)(hd:DataW.TrodAll enc P w 0 sp held ts vs ds p)
  (NL:∀xs,pY as xs->@AC ⟨w⟩ P f xs λr _=>r=.bool true):Calls P f vs.toArray w λe w'=>e=.returned (.bool true)/\Below w.heap.size w w':=by
 obtain⟨cs,rfl,hcs,hc⟩:=Ea ha hv hd;refine(NL _ hc w (λb _=>b<w.heap.size) (λ_ _=>False) cs rfl ⟨λx hx=>(hcs x hx).1,λx hx=>(hcs x hx).2.1,λx hx b k hf=>((hcs x hx).2.2 b k hf).elim,λb k h=>h.elim id False.elim,?_⟩ λb hb=>⟨rfl,λk=>.inl hb⟩).mono λe w' ⟨r,ps,ay,hD,hr⟩=>?_;·refine lY.2 λi j hi hj _ b k hf=>((hcs _ (dy hi)).2.2 b k hf).elim
 ·letI:Bs:=⟨w⟩;have hr':=mO hr;subst hr';exact⟨hD.ends,(hD.ext.mono (S':=λ_ _=>False) λb k ⟨x,hx,hf⟩ _=>(hcs x hx).2.2 b k hf).below⟩
def Ka{t:TypeId}{a:jB}(h:oc P t=some a):∃n deep ts,fR P n deep t=some ts:=by
 unfold oc at h;split at h;·simp only[nU] at h;obtain⟨ts,ht,_⟩:=h;exact⟨_,_,ts,ht⟩
 ·rename_i hu;exact⟨1,true,[.bool],by simp[fR,hu]⟩
 ·rename_i k hu;exact⟨1,true,[.int k],by simp[fR,hu]⟩
 ·rename_i hu;exact⟨1,true,[.str],by simp[fR,hu]⟩
 ·simp only[iX] at h;obtain⟨ts,ht,_⟩:=h;exact⟨_,_,ts,ht⟩
 ·cases h
def TK{w':World}(hb:Below w.heap.size w w'):∀{ts:List TypeId} {as:List jB} {vs:List Value} {ds:List (DataW H)} {p:List MemPlace},ts.map (oc P)=as.map some->
  DataW.TrodAll enc P w 0 (λ_=>true) held ts vs ds p->DataW.TrodAll enc P w' 0 (λb=>decide (b<w.heap.size)) held ts vs ds p
 |[],[],[],[],_,_,h=>h
 |t::ts,a::as,v::vs,d::ds,_,ha,⟨p,q,⟨fuel,h1⟩,h2,e⟩=>by simp only[aS,sn] at ha;obtain⟨n,deep,tt,ht⟩:=Ka ha.1;have h3:=C6 n deep t tt ht _ _ _ h1;exact⟨p,q,⟨fuel,DataW.trod_carry _ _ _ _ h3 λm hm=>hb.same (DataW.trod_lt _ _ _ _ h3 m hm)⟩,TK hb ha.2 h2,e⟩
end
end M
namespace M
open Go
def pZ(ts:List Ty)(r:List X):Prop:=r.length=ts.length/\∀(j:Nat) ty x,ts[j]?=some ty->r[j]?=some x->fB ty x
def pZ.nil{r:List X}(h:pZ [] r):r=[]:=Jc.1 h.1
def pZ.cons{ty:Ty}{ts:List Ty}{r:List X}(h:pZ (ty::ts) r):∃x r',r=x::r'/\fB ty x/\pZ ts r':=by
 obtain⟨h1,h2⟩:=h;cases r with
 |nil=>cases h1
 |cons x r=>exact⟨x,r,rfl,h2 0 ty x rfl rfl,by simpa using h1,λj ty x ht hx=>h2 (j+1) ty x (by simpa using ht) (by simpa using hx)⟩
def GK{α:Type}{e:α->List X}{ok:α->Prop}:∀{xs:List (List X)},(∀r∈xs,∃a,r=e a/\ok a)->∃l:List α,xs=l.map e/\∀a∈l,ok a
 |[],_=>⟨[],rfl,λ_ h=>by cases h⟩
 |r::xs,h=>by
  obtain⟨a,e1,e2⟩:=h r (bE ..);obtain⟨l,e3,e4⟩:=GK (λr hr=>h r (bU _ hr));refine⟨a::l,by simp[e1,e3],λb hb=>?_⟩;rcases bA.1 hb with rfl|hb;·exact e2
  ·exact e4 b hb
def Ll{α:Type}(e:α->List X)(ok:α->Prop){ts:List Ty}{x:X}(h:fB (.row ts) x)(hr:∀r,pZ ts r->∃a,r=e a/\ok a):∃l:List α,x=.row .sl ts.length (l.map e)/\l.length<=9223372036854775807/\∀a∈l,ok a:=by
 cases h with
 |row h1 h2 h3=>rename_i xs;obtain⟨l,rfl,hl⟩:=GK (e:=e) (ok:=ok) (xs:=xs) λr hr'=>hr r ⟨h2 r hr',h3 r hr'⟩;rw[cM] at h1;exact⟨l,rfl,h1,hl⟩
def Vg{ty:Ty}{x:X}(h:n9 (.one ty) x):fB ty x:=by
 cases h with
 |one h=>exact h
def Vh{a:jB}{as:List jB}{xs:List X}(h:pY (a::as) xs):∃x xs',xs=x::xs'/\n9 a x/\pY as xs':=by
 match xs,h with
 |x::xs',⟨h1,h2⟩=>exact⟨x,xs',rfl,h1,h2⟩
def Vi{xs:List X}(h:pY [] xs):xs=[]:=by
 match xs,h with
 |[],_=>rfl
structure Ue (d:mh):Prop where
 hb:d.cells.length<=9223372036854775807
 hs:∀s∈d.cells,s.length<=9223372036854775807
 hb':d.pending.length<=9223372036854775807
 hs':∀s∈d.pending,s.text.length<=9223372036854775807
 hi:∀s∈d.pending,-9223372036854775808<=s.at_/\s.at_<=9223372036854775807
def Lj{x:X}(h:fB (.int .u8) x):∃b:UInt8,x=.int .u8 (b.toNat:Int):=by
 cases h with
 |int h=>rename_i n;have h':(decide (IntKind.u8.min<=n) && decide (n<=IntKind.u8.max))=true:=h;rw[au,aP,aP] at h';have h1:0<=n:=h'.1;have h2:n<=255:=h'.2;refine⟨UInt8.ofNat n.toNat,?_⟩;rw[zG];congr 1;omega
def Vj{x:X}(h:fB (.row [.int .u8]) x):∃l:List UInt8,x=.row .sl 1 (l.map eU)/\l.length<=9223372036854775807/\∀b∈l,True:=
 Ll eU (λ_=>True) h λr hr=>by obtain⟨x,r',rfl,h1,h2⟩:=hr.cons;obtain rfl:=h2.nil;obtain⟨b,rfl⟩:=Lj h1;exact⟨b,rfl,trivial⟩
end M
namespace M
open Go
def Pd{γ:Type}{f:af->bx}(st:γ->af)(μ:γ->Nat)(Inv:γ->Prop)(E:γ->af)
  (h:∀g,Inv g->(∃g',Inv g'/\f (st g)=some (.exit 0,E g'))\/∃g',Inv g'/\μ g'<μ g/\f (st g)=some (.normal,st g'))(g:γ)(hg:Inv g):∃g',Inv g'/\aT f (st g)=some (.exit 0,E g'):=by
 suffices H:∀n g,μ g=n->Inv g->∃g',Inv g'/\aT f (st g)=some (.exit 0,E g') from H _ g rfl hg
 intro n;induction n using Nat.strongRecOn with
 |ind n ih=>
  intro g hn hI;rcases h g hI with ⟨g',h1,h2⟩|⟨g',h1,h2,h3⟩;·exact⟨g',h1,by rw[dS,h2];rfl⟩
  ·obtain⟨g2,h4,h5⟩:=ih _ (hn▸h2) g' rfl h1;exact⟨g2,h4,by rw[dS,h3];exact h5⟩
end M
namespace M
open Go
def TL(m:Nat)(h:m<256):lX [[.int .u8 (m:Int)]]=some [UInt8.ofNat m]:=by
 have:=C8 [UInt8.ofNat m];have e:((UInt8.ofNat m).toNat:Int)=m:=by rw[zG];omega
 simp only[aS,jA,e] at this;exact this
def IG{n:Int}(h1:0<=n)(h2:n<256):IntKind.u8.wrap n=n:=by simp only[IntKind.wrap,IntKind.signed,IntKind.bits,Bool.false_and,gx,iZ];omega
def bN(n:Nat):ai:=Lib.decDigits n
def Pk:∀(n:Nat) (out:ai),n≠0->oQ n out=bN n++out:=by
 intro n;induction n using Nat.strongRecOn with
 |ind n ih=>
  intro out h;unfold oQ bN;rw[si h,Lib.decDigits];by_cases h1:n<10
  ·have e:n / 10=0:=by omega
   have e2:n%10=n:=by omega
   rw[j7 h1,e,e2];unfold oQ;rw[j7 rfl];rfl
  ·rw[si h1,ih (n / 10) (by omega) _ (by omega)];unfold bN;rw[nV];rfl
def AK:bN 0=[48]:=by unfold bN;rw[Lib.decDigits];rfl
def E3(k:Nat):∀(n:Nat),n<10^(k+1)->(bN n).length<=k+1:=by
 induction k with
 |zero=>intro n h;unfold bN;rw[Lib.decDigits,j7 (by simpa using h)];simp
 |succ k ih=>
  intro n h;unfold bN;rw[Lib.decDigits];by_cases h1:n<10;·rw[j7 h1];simp
  ·rw[si h1,fT];have:=ih (n / 10) (by rw[zC] at h;omega);unfold bN at this;simp only[cw,iA];omega
def BR(n:Nat):Lib.itoa (n:Int)=bN n:=by unfold Lib.itoa bN;rw[aC (by omega)];rfl
def tY:List X->Option X
 |[.int .i64 n]=>if -9223372036854775808<=n/\n<=9223372036854775807 then some (.str ⟨(Go.Lib.itoa n).toArray⟩) else none
 |_=>none
def OQ(f:FuncId)(n:Nat)(h:n<10^18):jq f tY f [.int .i64 (n:Int)]=some (.str ⟨(bN n).toArray⟩,[.dead]):=by
 have h1:(n:Int)<=9223372036854775807:=by omega
 have h2:=E3 17 n (by omega);simp[jq,tY,BR,scalar,vp,h1];omega
end M
namespace M
open Go
def wS(s:ai):Nat:=s.length
def wL{α:Type}(w:α->Nat)(l:List α):Nat:=l.length+(l.map w).sum
def Db{α:Type}{w:α->Nat}:∀{l:List α} {a:α},a∈l->w a<=wL w l
 |b::l,a,h=>by
  rcases bA.1 h with rfl|h;·simp[wL];omega
  ·have:=Db (w:=w) h;simp[wL] at this⊢;omega
def cv{α:Type}{w:α->Nat}(l:List α):l.length<=wL w l:=by unfold wL;omega
def bI(n:Int):Prop:=-9223372036854775808<=n/\n<=9223372036854775807
def bS(s:ai):Prop:=s.length<=9223372036854775807
def bB(_:Bool):Prop:=True
def bL{α:Type}(b:α->Prop)(l:List α):Prop:=l.length<=9223372036854775807/\∀a∈l,b a
@[simp] def eI(n:Int):List X:=[.int .i64 n]
@[simp] def WX(m:Md)(l:List Int):X.bq m (l.map eI)=l.map eI:=by induction l<;>simp_all[X.bq,X.cN,X.md]
@[simp] def UT(l:List Int):X.clean.aR (l.map eI)=true:=by induction l<;>simp_all[X.clean.aR,X.clean.bC,X.clean]
structure ax where
 name:ai
 value:ai
 deriving DecidableEq
@[simp] def aE(a:ax):List X:=[.str ⟨(a.name).toArray⟩,.str ⟨(a.value).toArray⟩]
@[simp] def WW(m:Md)(l:List ax):X.bq m (l.map aE)=l.map aE:=by induction l<;>simp_all[X.bq,X.cN,X.md]
@[simp] def US(l:List ax):X.clean.aR (l.map aE)=true:=by induction l<;>simp_all[X.clean.aR,X.clean.bC,X.clean]
def aB(a:ax):Nat:=a.name.length+a.value.length
structure Ed (x:ax):Prop where
 Wq:bS x.name
 WD:bS x.value
structure bh where
 status:Int
 fields:List ax
 body:ai
 deriving DecidableEq
@[simp] def cy(m:Md)(a:bh):List X:=[.int .i64 a.status,.row m 2 ((a.fields).map aE),.str ⟨(a.body).toArray⟩]
@[simp] def W5(m m':Md)(l:List bh):X.bq m (l.map (cy m'))=l.map (cy m):=by induction l<;>simp_all[X.bq,X.cN,X.md]
@[simp] def UZ(l:List bh):X.clean.aR (l.map (cy .own))=true:=by induction l<;>simp_all[X.clean.aR,X.clean.bC,X.clean]
@[simp] def Vc(l:List bh):X.clean.aR (l.map (cy .sl))=true:=by induction l<;>simp_all[X.clean.aR,X.clean.bC,X.clean]
def bl(a:bh):Nat:=wL aB a.fields+a.body.length
structure v8 (x:bh):Prop where
 WB:bI x.status
 OX:(bL Ed) x.fields
 OV:bS x.body
structure Rq where
 method:Int
 path:ai
 fields:List ax
 body:ai
 deriving DecidableEq
@[simp] def cF(m:Md)(a:Rq):List X:=[.int .i64 a.method,.str ⟨(a.path).toArray⟩,.row m 2 ((a.fields).map aE),.str ⟨(a.body).toArray⟩]
@[simp] def W4(m m':Md)(l:List Rq):X.bq m (l.map (cF m'))=l.map (cF m):=by induction l<;>simp_all[X.bq,X.cN,X.md]
@[simp] def UY(l:List Rq):X.clean.aR (l.map (cF .own))=true:=by induction l<;>simp_all[X.clean.aR,X.clean.bC,X.clean]
@[simp] def Vb(l:List Rq):X.clean.aR (l.map (cF .sl))=true:=by induction l<;>simp_all[X.clean.aR,X.clean.bC,X.clean]
def bY(a:Rq):Nat:=a.path.length+wL aB a.fields+a.body.length
structure vZ (x:Rq):Prop where
 Wp:bI x.method
 OZ:bS x.path
 OX:(bL Ed) x.fields
 OV:bS x.body
structure Ob where
 path:ai
 names:List ai
 values:List ai
 resp:bh
 t:Int
 deriving DecidableEq
@[simp] def gD(m:Md)(a:Ob):List X:=[.str ⟨(a.path).toArray⟩,.row m 1 ((a.names).map eS),.row m 1 ((a.values).map eS),.int .i64 a.resp.status,.row m 2 ((a.resp.fields).map aE),.str ⟨(a.resp.body).toArray⟩,.int .i64 a.t]
@[simp] def WZ(m m':Md)(l:List Ob):X.bq m (l.map (gD m'))=l.map (gD m):=by induction l<;>simp_all[X.bq,X.cN,X.md]
@[simp] def UW(l:List Ob):X.clean.aR (l.map (gD .own))=true:=by induction l<;>simp_all[X.clean.aR,X.clean.bC,X.clean]
@[simp] def U9(l:List Ob):X.clean.aR (l.map (gD .sl))=true:=by induction l<;>simp_all[X.clean.aR,X.clean.bC,X.clean]
def dJ(a:Ob):Nat:=a.path.length+wL wS a.names+wL wS a.values+bl a.resp
structure Ag (x:Ob):Prop where
 OZ:bS x.path
 Ws:(bL bS) x.names
 WE:(bL bS) x.values
 BT:v8 x.resp
 BU:bI x.t
structure Kp where
 obj:Ob
 at_:Int
 seq:Int
 deriving DecidableEq
@[simp] def qo(m:Md)(a:Kp):List X:=[.str ⟨(a.obj.path).toArray⟩,.row m 1 ((a.obj.names).map eS),.row m 1 ((a.obj.values).map eS),.int .i64 a.obj.resp.status,.row m 2 ((a.obj.resp.fields).map aE),.str ⟨(a.obj.resp.body).toArray⟩,.int .i64 a.obj.t,.int .i64 a.at_,.int .i64 a.seq]
@[simp] def WY(m m':Md)(l:List Kp):X.bq m (l.map (qo m'))=l.map (qo m):=by induction l<;>simp_all[X.bq,X.cN,X.md]
@[simp] def UU(l:List Kp):X.clean.aR (l.map (qo .own))=true:=by induction l<;>simp_all[X.clean.aR,X.clean.bC,X.clean]
@[simp] def U8(l:List Kp):X.clean.aR (l.map (qo .sl))=true:=by induction l<;>simp_all[X.clean.aR,X.clean.bC,X.clean]
structure Kf (x:Kp):Prop where
 OY:Ag x.obj
 OT:bI x.at_
 O0:bI x.seq
structure Kj (x:Wr):Prop where
 OT:bI x.at_
 WC:bS x.text
structure Kc (x:mh):Prop where
 Wk:(bL bS) x.cells
 Wx:(bL Kj) x.pending
structure Bn where
 kind:Int
 a:ai
 b:ai
 t:Int
 deriving DecidableEq
@[simp] def sX(a:Bn):List X:=[.int .i64 a.kind,.str ⟨(a.a).toArray⟩,.str ⟨(a.b).toArray⟩,.int .i64 a.t]
@[simp] def WS(m:Md)(l:List Bn):X.bq m (l.map sX)=l.map sX:=by induction l<;>simp_all[X.bq,X.cN,X.md]
@[simp] def UO(l:List Bn):X.clean.aR (l.map sX)=true:=by induction l<;>simp_all[X.clean.aR,X.clean.bC,X.clean]
structure Ec (x:Bn):Prop where
 GC:bI x.kind
 OS:bS x.a
 Wi:bS x.b
 BU:bI x.t
structure Sh where
 iF:mh
 nC:List Kp
 iC:List Bn
 next:Int
 seq:Int
 deriving DecidableEq
@[simp] def wE(m:Md)(a:Sh):List X:=[.row m 1 ((a.iF.cells).map eS),.row m 2 ((a.iF.pending).map eW),.row m 9 ((a.nC).map (qo m)),.row m 4 ((a.iC).map sX),.int .i64 a.next,.int .i64 a.seq]
@[simp] def W8(m m':Md)(l:List Sh):X.bq m (l.map (wE m'))=l.map (wE m):=by induction l<;>simp_all[X.bq,X.cN,X.md]
@[simp] def U2(l:List Sh):X.clean.aR (l.map (wE .own))=true:=by induction l<;>simp_all[X.clean.aR,X.clean.bC,X.clean]
@[simp] def Ve(l:List Sh):X.clean.aR (l.map (wE .sl))=true:=by induction l<;>simp_all[X.clean.aR,X.clean.bC,X.clean]
structure Ki (x:Sh):Prop where
 Wl:Kc x.iF
 Wv:(bL Kf) x.nC
 OU:(bL Ec) x.iC
 Wt:bI x.next
 O0:bI x.seq
structure Fl where
 q:Rq
 who:List Int
 old:Ob
 xb:Bool
 deriving DecidableEq
@[simp] def s4(m:Md)(a:Fl):List X:=[.int .i64 a.q.method,.str ⟨(a.q.path).toArray⟩,.row m 2 ((a.q.fields).map aE),.str ⟨(a.q.body).toArray⟩,.row m 1 ((a.who).map eI),.str ⟨(a.old.path).toArray⟩,.row m 1 ((a.old.names).map eS),.row m 1 ((a.old.values).map eS),.int .i64 a.old.resp.status,.row m 2 ((a.old.resp.fields).map aE),.str ⟨(a.old.resp.body).toArray⟩,.int .i64 a.old.t,.bool a.xb]
@[simp] def WV(m m':Md)(l:List Fl):X.bq m (l.map (s4 m'))=l.map (s4 m):=by induction l<;>simp_all[X.bq,X.cN,X.md]
@[simp] def UR(l:List Fl):X.clean.aR (l.map (s4 .own))=true:=by induction l<;>simp_all[X.clean.aR,X.clean.bC,X.clean]
@[simp] def U7(l:List Fl):X.clean.aR (l.map (s4 .sl))=true:=by induction l<;>simp_all[X.clean.aR,X.clean.bC,X.clean]
structure Ke (x:Fl):Prop where
 BS:vZ x.q
 WG:(bL bI) x.who
 Ww:Ag x.old
 Wn:bB x.xb
structure Se where
 q:Rq
 resp:bh
 t:Int
 deriving DecidableEq
@[simp] def s6(m:Md)(a:Se):List X:=[.int .i64 a.q.method,.str ⟨(a.q.path).toArray⟩,.row m 2 ((a.q.fields).map aE),.str ⟨(a.q.body).toArray⟩,.int .i64 a.resp.status,.row m 2 ((a.resp.fields).map aE),.str ⟨(a.resp.body).toArray⟩,.int .i64 a.t]
@[simp] def W7(m m':Md)(l:List Se):X.bq m (l.map (s6 m'))=l.map (s6 m):=by induction l<;>simp_all[X.bq,X.cN,X.md]
@[simp] def U1(l:List Se):X.clean.aR (l.map (s6 .own))=true:=by induction l<;>simp_all[X.clean.aR,X.clean.bC,X.clean]
@[simp] def Vd(l:List Se):X.clean.aR (l.map (s6 .sl))=true:=by induction l<;>simp_all[X.clean.aR,X.clean.bC,X.clean]
structure Kh (x:Se):Prop where
 BS:vZ x.q
 BT:v8 x.resp
 BU:bI x.t
structure Rp where
 client:Int
 q:Rq
 resp:bh
 kind:Int
 t:Int
 obj:Ob
 iC:Int
 deriving DecidableEq
@[simp] def s5(m:Md)(a:Rp):List X:=[.int .i64 a.client,.int .i64 a.q.method,.str ⟨(a.q.path).toArray⟩,.row m 2 ((a.q.fields).map aE),.str ⟨(a.q.body).toArray⟩,.int .i64 a.resp.status,.row m 2 ((a.resp.fields).map aE),.str ⟨(a.resp.body).toArray⟩,.int .i64 a.kind,.int .i64 a.t,.str ⟨(a.obj.path).toArray⟩,.row m 1 ((a.obj.names).map eS),.row m 1 ((a.obj.values).map eS),.int .i64 a.obj.resp.status,.row m 2 ((a.obj.resp.fields).map aE),.str ⟨(a.obj.resp.body).toArray⟩,.int .i64 a.obj.t,.int .i64 a.iC]
@[simp] def W3(m m':Md)(l:List Rp):X.bq m (l.map (s5 m'))=l.map (s5 m):=by induction l<;>simp_all[X.bq,X.cN,X.md]
@[simp] def UX(l:List Rp):X.clean.aR (l.map (s5 .own))=true:=by induction l<;>simp_all[X.clean.aR,X.clean.bC,X.clean]
@[simp] def Va(l:List Rp):X.clean.aR (l.map (s5 .sl))=true:=by induction l<;>simp_all[X.clean.aR,X.clean.bC,X.clean]
structure Kg (x:Rp):Prop where
 OW:bI x.client
 BS:vZ x.q
 BT:v8 x.resp
 GC:bI x.kind
 BU:bI x.t
 OY:Ag x.obj
 OU:bI x.iC
structure Ca where
 fQ:Sh
 jI:List Fl
 now:Int
 seen:List Se
 sent:List Rp
 deriving DecidableEq
@[simp] def wC(m:Md)(a:Ca):List X:=[.row m 1 ((a.fQ.iF.cells).map eS),.row m 2 ((a.fQ.iF.pending).map eW),.row m 9 ((a.fQ.nC).map (qo m)),.row m 4 ((a.fQ.iC).map sX),.int .i64 a.fQ.next,.int .i64 a.fQ.seq,.row m 13 ((a.jI).map (s4 m)),.int .i64 a.now,.row m 8 ((a.seen).map (s6 m)),.row m 18 ((a.sent).map (s5 m))]
@[simp] def WT(m m':Md)(l:List Ca):X.bq m (l.map (wC m'))=l.map (wC m):=by induction l<;>simp_all[X.bq,X.cN,X.md]
@[simp] def UP(l:List Ca):X.clean.aR (l.map (wC .own))=true:=by induction l<;>simp_all[X.clean.aR,X.clean.bC,X.clean]
@[simp] def U5(l:List Ca):X.clean.aR (l.map (wC .sl))=true:=by induction l<;>simp_all[X.clean.aR,X.clean.bC,X.clean]
structure Us (x:Ca):Prop where
 WA:Ki x.fQ
 Wm:(bL Ke) x.jI
 Wu:bI x.now
 Wy:(bL Kh) x.seen
 Wz:(bL Kg) x.sent
structure De where
 kind:Int
 client:Int
 q:Rq
 a:Int
 resp:bh
 mD:Bn
 keep:List Bool
 deriving DecidableEq
@[simp] def wD(m:Md)(a:De):List X:=[.int .i64 a.kind,.int .i64 a.client,.int .i64 a.q.method,.str ⟨(a.q.path).toArray⟩,.row m 2 ((a.q.fields).map aE),.str ⟨(a.q.body).toArray⟩,.int .i64 a.a,.int .i64 a.resp.status,.row m 2 ((a.resp.fields).map aE),.str ⟨(a.resp.body).toArray⟩,.int .i64 a.mD.kind,.str ⟨(a.mD.a).toArray⟩,.str ⟨(a.mD.b).toArray⟩,.int .i64 a.mD.t,.row m 1 ((a.keep).map eB)]
@[simp] def WU(m m':Md)(l:List De):X.bq m (l.map (wD m'))=l.map (wD m):=by induction l<;>simp_all[X.bq,X.cN,X.md]
@[simp] def UQ(l:List De):X.clean.aR (l.map (wD .own))=true:=by induction l<;>simp_all[X.clean.aR,X.clean.bC,X.clean]
@[simp] def U6(l:List De):X.clean.aR (l.map (wD .sl))=true:=by induction l<;>simp_all[X.clean.aR,X.clean.bC,X.clean]
structure Ut (x:De):Prop where
 GC:bI x.kind
 OW:bI x.client
 BS:vZ x.q
 OS:bI x.a
 BT:v8 x.resp
 Wj:Ec x.mD
 Wo:(bL bB) x.keep
end M
namespace M
open Go
def dK{β:Type}(p:β->Bool):Nat->List β->Option (Nat×β)
 |_,[]=>none
 |i,b::l=>if p b=true then some (i,b) else dK p (i+1) l
def qw{β:Type}{p:β->Bool}:∀{l:List β} {k i:Nat} {b:β},dK p k l=some (i,b)->k<=i/\l[i - k]?=some b/\p b=true
 |b'::l,k,i,b,h=>by
  unfold dK at h;split at h;·rename_i hp;cases h;exact⟨ez _,by simp,hp⟩
  ·obtain⟨h1,h2,h3⟩:=qw h;refine⟨by omega,?_,h3⟩;rw[show i - k=(i - (k+1))+1 by omega,DE];exact h2
def A0{β:Type}{p:β->Bool}:∀{l:List β} {k:Nat},dK p k l=none↔∀b∈l,¬p b=true
 |[],k=>by simp[dK]
 |b'::l,k=>by
  unfold dK;by_cases hp:p b'=true;·simp[hp]
  ·rw[aC hp,A0];simp[hp]
def xW{xt:Nat}{β:Type}{f:af->bx}(l:List β)(st:Nat->af)(p:β->Bool)(R:Nat->β->af)(E:af)
  (h:∀i b,l[i]?=some b->i<l.length->f (st i)=if p b=true then some (.ret,R i b) else some (.normal,st (i+1)))
  (hend:f (st l.length)=some (.exit xt,E)):
  aT f (st 0)=(dK p 0 l).elim (some (.exit xt,E)) λx=>some (.ret,R x.1 x.2):=by
 suffices H:∀(r:List β) (i:Nat),l.drop i=r->i<=l.length->aT f (st i)=(dK p i r).elim (some (.exit xt,E)) λx=>some (.ret,R x.1 x.2) from H l 0 rfl (pS _)
 intro r;induction r with
 |nil=>
  intro i hr hi;have:i=l.length:=by have:=cK List.length hr;simp at this;omega
  subst this;rw[dS,hend];rfl
 |cons b r ih=>
  intro i hr hi;have hb:l[i]?=some b:=by have:=cK (λt:List β=>t[0]?) hr;simpa using this
  have hlt:i<l.length:=(br.1 hb).1;have hd:l.drop (i+1)=r:=by have:=cK List.tail hr;simpa using this
  rw[dS,h i b hb hlt];unfold dK;by_cases hp:p b=true;·simp[hp,lv]
  ·simp only[hp];exact ih (i+1) hd hlt
def ud{xt:Nat}{β γ:Type}{f:af->bx}(l:List β)(φ:β->List γ)(st:Nat->List γ->af)(E:List γ->af)
  (h:∀i b out,l[i]?=some b->i<l.length->out=(l.take i).flatMap φ->f (st i out)=some (.normal,st (i+1) (out++φ b)))
  (hend:∀out,out=l.flatMap φ->f (st l.length out)=some (.exit xt,E out)):
  aT f (st 0 [])=some (.exit xt,E (l.flatMap φ)):=by
 suffices H:∀(k i:Nat),i+k=l.length->aT f (st i ((l.take i).flatMap φ))=some (.exit xt,E (l.flatMap φ)) from H l.length 0 (by omega)
 intro k;induction k with
 |zero=>
  intro i hi;obtain rfl:i=l.length:=by omega
  rw[r7,dS,hend _ rfl];rfl
 |succ k ih=>
  intro i hi;have hlt:i<l.length:=by omega
  rw[dS,h i l[i] _ (bH hlt) hlt rfl];have:(l.take i).flatMap φ++φ l[i]=(l.take (i+1)).flatMap φ:=by rw[r8 hlt,DA];simp
  simp only[this];exact ih (i+1) (by omega)
def A4{β γ:Type}(g:β->γ)(l:List β):l.flatMap (λb=>[g b])=l.map g:=by induction l<;>simp_all
def FA{β γ:Type}(g:β->γ)(l:List β)(i:Nat)(h:i<=l.length):((l.take i).flatMap (λb=>[g b])).length=i:=by rw[A4];simp;omega
end M
namespace M
open Go
def jQ(b:UInt8):UInt8:=if 65<=b.toNat/\b.toNat<=90 then b+32 else b
def bz(s:ai):ai:=s.map jQ
def pM(b:UInt8):Bool:=decide ((97<=b.toNat/\b.toNat<=122)\/(48<=b.toNat/\b.toNat<=57)\/b.toNat=45)
def eY(s:ai):Bool:=cj pM s && decide (1<=(s.length:Int)/\(s.length:Int)<=20)
def gq(lo:Nat)(b:UInt8):Bool:=decide (lo<=b.toNat/\b.toNat<=126)
def dH(s:ai):ai:=Lib.trimB s 32
def eZ(s:ai):Bool:=cj (gq 32) s && decide (1<=(s.length:Int)/\(s.length:Int)<=60) && decide (dH s=s)
def bG(n:Int):ai:=if 0<=n/\n<=1000000 then bN n.toNat else []
def eT(b:UInt8):Bool:=decide (48<=b.toNat/\b.toNat<=57)
def iw(s:ai):Nat:=s.foldl (λx b=>10*x+b.toNat - 48) 0
def b9(s:ai):Option Nat:=if iw s<=1000000/\bN (iw s)=s then some (iw s) else none
def iR(s:ai):Bool:=cj (gq 33) s && decide (1<=(s.length:Int)/\(s.length:Int)<=60) && decide (s[0]?.map (λb:UInt8=>(b.toNat:Int))=some 47)
def AN{α:Type}(p:α->Bool):∀(a b:List α),(∃x∈a,p x=false)->(a++b).dropWhile p=a.dropWhile p++b
 |[],b,h=>by simp at h
 |x::a,b,h=>by
  simp only[gN,pW];by_cases hx:p x=true
  ·simp only[hx,cU];refine AN p a b ?_;obtain⟨y,hy,hp⟩:=h;rcases bA.1 hy with rfl|hy;·rw[hx] at hp;cases hp
   ·exact⟨y,hy,hp⟩
  ·simp[hx]
def AM{α:Type}(p:α->Bool):∀(a:List α),(∀x∈a,p x=true)->a.dropWhile p=[]
 |[],_=>rfl
 |x::a,h=>by rw[pW,aA (h x (bE ..))];exact AM p a λy hy=>h y (bU _ hy)
def AO{α:Type}(p:α->Bool):∀{a:List α} {x:α},x∈a->p x=false->x∈a.dropWhile p
 |y::a,x,h,hp=>by
  rw[pW];by_cases hy:p y=true
  ·rw[aA hy];rcases bA.1 h with rfl|h;·rw[hy] at hp;cases hp
   ·exact AO p h hp
  ·rw[aC hy];exact h
def E6{α:Type}(p:α->Bool)(l:List α):∃a,l=a++l.dropWhile p/\∀x∈a,p x=true:=by refine⟨l.takeWhile p,(List.takeWhile_append_dropWhile).symm,λx hx=>?_⟩;have:=List.all_takeWhile (l:=l) (p:=p);exact kV.1 this x hx
def TJ(p:UInt8->Bool)(l:List UInt8):(l.reverse.dropWhile p).reverse.dropWhile p=((l.dropWhile p).reverse.dropWhile p).reverse:=by
 by_cases h:∃x∈l,p x=false
 ·obtain⟨x,hx,hp⟩:=h;obtain⟨a,e1,h1⟩:=E6 p l;have hm:x∈l.dropWhile p:=AO p hx hp
  have e2:l.reverse.dropWhile p=(l.dropWhile p).reverse.dropWhile p++a.reverse:=by
   conv=>lhs;rw[e1,IY]
   exact AN p _ _ ⟨x,by simpa using hm,hp⟩
  rw[e2,IY,Dk];obtain⟨b,e3,h3⟩:=E6 p (l.dropWhile p).reverse;generalize hd:(l.dropWhile p).reverse.dropWhile p=d at e3⊢;have N1:∃y∈d,p y=false:=⟨x,by rw[<-hd];exact AO p (by simpa using hm) hp,hp⟩;have e4:l.dropWhile p=d.reverse++b.reverse:=by have:=cK List.reverse e3;simpa using this
  have e5:(a++d.reverse).dropWhile p=d.reverse.dropWhile p:=by
   clear e1 e2 e3 hm;induction a with
   |nil=>rfl
   |cons y a ih=>rw[gN,pW,aA (h1 y (bE ..))];exact ih λz hz=>h1 z (bU _ hz)
  rw[e5]
  have e6:(l.dropWhile p).dropWhile p=l.dropWhile p:=by
   have:∀l:List UInt8,(l.dropWhile p).dropWhile p=l.dropWhile p:=by
    intro l;induction l with
    |nil=>rfl
    |cons y l ih=>
     rw[pW];by_cases hy:p y=true;·rw[aA hy];exact ih
     ·rw[aC hy,pW,aC hy]
   exact this l
  rw[e4] at e6;rw[AN p d.reverse b.reverse (by obtain⟨y,hy,hp⟩:=N1;exact⟨y,by simpa using hy,hp⟩)] at e6;exact List.append_cancel_right e6
 ·have h1:∀x∈l,p x=true:=λx hx=>by
   cases hp:p x with
   |true=>rfl
   |false=>exact absurd ⟨x,hx,hp⟩ h
  rw[AM p l h1,AM p l.reverse (λx hx=>h1 x (by simpa using hx))];rfl
def TI(s:ai):dH s=Lib.trimRightB (Lib.trimLeftB s 32) 32:=TJ _ s
def Ik(s:ai):(dH s).length<=s.length:=by unfold dH Lib.trimB Lib.trimLeftB Lib.trimRightB;have h1:=(I8 (l:=(List.dropWhile (λx=>x==32) s.reverse).reverse) (λx=>x==(32:UInt8))).length_le;have h2:=(I8 (l:=s.reverse) (λx=>x==(32:UInt8))).length_le;simp only[DL] at h1 h2;omega
def Nt{α β:Type}(f:β->α->β)(l:List α)(a:α)(b:β):(l++[a]).foldl f b=f (l.foldl f b) a:=by simp
def AG(n:Nat):bN n≠[]:=by intro h;have:(bN n).length=Lib.nDigits n:=Lib.decDigits_length n;rw[h] at this;have h2:=Lib.nDigits_pos n;rw[<-this] at h2;simp at h2
def AJ(n:Nat)(h:¬n<10):bN n=bN (n / 10)++[UInt8.ofNat (48+n%10)]:=by unfold bN;rw[Lib.decDigits,si h]
def AH(n:Nat)(h:n<10):bN n=[UInt8.ofNat (48+n)]:=by unfold bN;rw[Lib.decDigits,j7 h]
def qm(k:Nat)(h:k<10):(UInt8.ofNat (48+k)).toNat=48+k:=by rw[zG];omega
def Iu:∀n:Nat,iw (bN n)=n:=by
 intro n;induction n using Nat.strongRecOn with
 |ind n ih=>
  by_cases h:n<10;·rw[AH n h];simp only[iw,zN,List.foldl_nil,qm n h];omega
  ·rw[AJ n h];have:=ih (n / 10) (by omega);unfold iw at this⊢;rw[Nt,this,qm _ (by omega)];omega
def AF:∀n:Nat,cj eT (bN n)=true:=by
 intro n;induction n using Nat.strongRecOn with
 |ind n ih=>
  rw[iB];by_cases h:n<10;·rw[AH n h];intro x hx;rw[ew.1 hx];unfold eT;rw[qm n h];simp;omega
  ·rw[AJ n h];intro x hx;rcases dz.1 hx with hx|hx;·exact iB.1 (ih _ (by omega)) x hx
   ·rw[ew.1 hx];unfold eT;rw[qm _ (by omega)];simp;omega
def oS{s:ai}{n:Nat}:b9 s=some n↔n<=1000000/\bN n=s:=by
 unfold b9;constructor
 ·intro h;split at h;·rename_i hc;cases h;exact hc
  ·cases h
 ·rintro ⟨h1,rfl⟩;rw[Iu,aA ⟨h1,rfl⟩]
def ql(n:Nat)(h:n<=1000000):(bN n).length<=7:=E3 6 n (by omega)
def Cf(n:Nat)(h:n<=1000000):bG (n:Int)=bN n:=by unfold bG;rw[aA (by omega)];rfl
def G4(n:Nat)(h:n<=1000000):b9 (bG n)=some n:=oS.2 ⟨h,(Cf n h).symm⟩
def PR(s:ai)(h:s.length<=7):b9 s=if s≠[]/\cj eT s=true/\bG (iw s)=s then some (iw s) else none:=by
 cases hr:b9 s with
 |some n=>obtain⟨h1,rfl⟩:=oS.1 hr;rw[Iu,aA ⟨AG n,AF n,Cf n h1⟩]
 |none=>
  rw[aC];rintro ⟨h1,h2,h3⟩
  have:b9 s=some (iw s):=by
   refine oS.2 ?_;unfold bG at h3;split at h3;·rename_i hc;exact⟨by omega,h3⟩
   ·exact absurd h3.symm h1
  rw[this] at hr;cases hr
def QN:∀(n acc:Nat) (l:List UInt8),acc*10^Lib.nDigits n+n<10000000000->Lib.parseUint10 acc (bN n++l)=Lib.parseUint10 (acc*10^Lib.nDigits n+n) l:=by
 intro n;induction n using Nat.strongRecOn with
 |ind n ih=>
  intro acc l hn;by_cases h:n<10;·rw[AH n h];simp only[gN,pP,Lib.parseUint10,qm n h];rw[Lib.nDigits_small h] at hn⊢;rw[aA (by omega),aC (by omega),aC (by omega)];congr 1;omega
  ·rw[AJ n h,nV];have e:=Lib.nDigits_big h;rw[e,zC] at hn⊢;have hm:acc*(10^Lib.nDigits (n / 10)*10)=acc*10^Lib.nDigits (n / 10)*10:=by rw[Nat.mul_assoc]
   rw[hm] at hn⊢;rw[ih (n / 10) (by omega) acc _ (by omega)];have hd:=qm (n%10) (by omega);simp only[gN,pP,Lib.parseUint10,hd];rw[aA (by omega),aC (by omega),aC (by omega)];congr 1;omega
def Eb(n:Nat)(h:n<=1000000):Lib.atoiAll (bN n)=.ok (n:Int):=by
 cases hd:bN n with
 |nil=>exact absurd hd (AG n)
 |cons c r=>have hc:=iB.1 (AF n) c (by rw[hd];exact bE ..);simp only[eT,aP] at hc;rw[Lib.atoiAll_plain c r (by omega) (by omega),<-hd];unfold Lib.parseMag;rw[aC (AG n)];have:=QN n 0 [] (by omega);rw[nW] at this;rw[this];simp only[Lib.parseUint10,Lib.signless];rw[aC (by omega)];simp
def PO(s:ai)(n:Int)(h:Lib.atoiAll s=.ok n):(if 0<=n/\n<=1000000/\Lib.itoa n=s then some n.toNat else none)=b9 s:=by
 split;·rename_i hc;symm;refine oS.2 ⟨by omega,?_⟩;rw[<-BR,<-hc.2.2];congr 1;omega
 ·rename_i hc;cases hr:b9 s with
  |none=>rfl
  |some m=>
   obtain⟨h1,rfl⟩:=oS.1 hr;rw[Eb m h1] at h;obtain rfl:(m:Int)=n:=by injection h
   exact absurd ⟨by omega,by omega,BR m⟩ hc
def PS(s:ai)(h:∀n,Lib.atoiAll s≠.ok n):b9 s=none:=by
 cases hr:b9 s with
 |none=>rfl
 |some m=>obtain⟨h1,rfl⟩:=oS.1 hr;exact absurd (Eb m h1) (h m)
def G0(s:ai)(h:7<s.length):b9 s=none:=by
 cases hr:b9 s with
 |none=>rfl
 |some m=>obtain⟨h1,rfl⟩:=oS.1 hr;have:=ql m h1;omega
def ct(c:UInt8):ai->List ai
 |[]=>[[]]
 |b::s=>if b=c then []::ct c s else match ct c s with
  |w::ws=>(b::w)::ws
  |[]=>[[b]]
def HW(c:UInt8)(s:ai):ct c s≠[]:=by
 cases s with
 |nil=>simp[ct]
 |cons b s=>
  unfold ct;split;·simp
  ·split<;>simp
def fS(s:ai):List ai:=((ct 44 s).map dH).filter λw=>decide (w≠[])
end M
namespace M
open Go Go.RowKit
def mq(w w':World)(c:C):Prop:=(∀Z,c.ok w' Z)/\c.bare/\∀b k,c.fp b k->w.heap.size<=b
def JY[Bs]{P:Program}{f:FuncId}{xs:List X}{r:X}
  (h:∀w zl zb cs,cs.map C.er=xs->mg w zl zb cs->j9 w->Calls P f (cs.map C.val).toArray w λe w'=>∃c:C,e=.returned c.val/\c.er=r/\Below w.heap.size w w'/\mq w w' c):
  AC P f xs λr' ps=>r'=r/\ps=xs.map λ_=>.dead:=by
 intro w zl zb cs e hA jL;refine(h w zl zb cs e hA λb hb=>(jL b hb).1).mono λe' w' ⟨c,he,hc,hb,c1,c2,c3⟩=>?_;have Bl:Ext (λb k=>∃x∈cs,x.fp b k) w w':=⟨hb.os,hb.tape,hb.output,hb.size,λb hl=>.inl (hb.block b hl)⟩;refine⟨c,cs.map λx=>.dead x.val,zl,⟨he,by rw[bT];rfl,Bl,⟨λx hx'=>?_,λx hx'=>?_,λx hx' b k hf=>?_,λb k hz=>iy (hA.bF b k (hz.imp id λh=>h.elim)) hb.size,?_⟩,λx hx' b k hf=>?_,λ_ _ h=>h,λ_ _ h=>.inl h⟩,hc,?_⟩
 ·rcases bA.1 hx' with rfl|hx';·exact c1 _
  ·obtain⟨y,_,rfl⟩:=aL.1 hx';trivial
 ·rcases bA.1 hx' with rfl|hx';·exact c2
  ·obtain⟨y,_,rfl⟩:=aL.1 hx';trivial
 ·rcases bA.1 hx' with rfl|hx';·have h1:=c3 b k hf;exact⟨λhz=>by have:=hA.bF b k (.inl hz);omega,λhz=>hz⟩
  ·obtain⟨y,_,rfl⟩:=aL.1 hx';exact hf.elim
 ·refine ey.2 ⟨λx hx b k hf hf'=>?_,?_⟩;·obtain⟨y,_,rfl⟩:=aL.1 hx;exact hf'
  ·refine lY.2 λi j hi hj _ b k hf=>?_;obtain⟨y,_,hy⟩:=aL.1 (dy hi);rw[<-hy] at hf;exact hf.elim
 ·rcases bA.1 hx' with rfl|hx';·exact .inr (c3 b k hf)
  ·obtain⟨y,_,rfl⟩:=aL.1 hx';exact hf.elim
 ·rw[<-e];simp[bT,Dy,C.er]
def eV(f0:FuncId)(g:List X->Option X):bw:=λf xs=>if f=f0 then (match g xs with
 |some r=>some (r,xs.map λ_=>.dead)
 |none=>none) else none
def uq[Bs]{P:Program}{f0:FuncId}{g:List X->Option X}
  (h:∀xs r,g xs=some r->∀w zl zb cs,cs.map C.er=xs->mg w zl zb cs->j9 w->Calls P f0 (cs.map C.val).toArray w λe w'=>∃c:C,e=.returned c.val/\c.er=r/\Below w.heap.size w w'/\mq w w' c):(eV f0 g).Sound P:=λf xs o e=>by
 unfold eV at e;split at e
 ·rename_i hf;subst hf;split at e;·rename_i r hr;cases e;exact JY (h xs r hr)
  ·cases e
 ·cases e
def s8{c:C}{s:ByteArray}(h:c.er=.str s):c=.str s:=by cases c<;>simp[C.er] at h;rw[h]
def map_nil{l:List C}(h:l.map C.er=[]):l=[]:=by simpa using h
def map_cons{l:List C}{x:X}{xs:List X}(h:l.map C.er=x::xs):∃c cs,l=c::cs/\c.er=x/\cs.map C.er=xs:=by
 cases l with
 |nil=>simp at h
 |cons c cs=>simp at h;exact⟨c,cs,rfl,h.1,h.2⟩
def A9{w w':World}{s:ByteArray}(h:s.size<=9223372036854775807):mq w w' (.str s):=⟨λ_=>h,trivial,λ_ _ h=>h.elim⟩
def Nu{w w':World}{k:IntKind}{n:Int}:mq w w' (.int k n):=⟨λ_=>trivial,trivial,λ_ _ h=>h.elim⟩
def FJ{w w':World}{b:Bool}:mq w w' (.bool b):=⟨λ_=>trivial,trivial,λ_ _ h=>h.elim⟩
def vw(l:List C):C:=.aq l.length λj=>l.getD j (.dead undef)
def Co{α β:Type}(l:List α)(d:α)(g:α->β):((List.range l.length).map λj=>g (l.getD j d))=l.map g:=by
 apply List.ext_getElem;·simp
 ·intro i h1 h2;simp at h1;simp[h1]
def Im(l:List C):(vw l).er=.aq (l.map C.er):=by show X.aq _=_;rw[Co l _ C.er]
def Io(l:List C):(vw l).val=.tuple (l.map C.val).toArray:=by show Value.tuple _=_;rw[Co l _ C.val]
def FK{w w':World}{l:List C}(h:∀c∈l,mq w w' c/\c.dV/\∀b k,¬c.fp b k):mq w w' (vw l):=by
 have hm:∀j,j<l.length->l.getD j (.dead undef)∈l:=λj hj=>by simp[List.getD,hj]
 refine⟨λZ=>⟨λj hj=>⟨(h _ (hm j hj)).2.1,(h _ (hm j hj)).1.1 Z⟩,λj hj b k hf=>((h _ (hm j hj)).2.2 b k hf).elim⟩,λj hj=>(h _ (hm j hj)).1.2.1,λb k hf=>?_⟩;obtain⟨j,hj,hf⟩:=hf;exact((h _ (hm j hj)).2.2 b k hf).elim
def Nv{w w':World}{g:Nat}{t:TypeId}{l:List ByteArray}(hg:w.heap.size<=g)(hb:w'.heap[g]?=some (.cells (l.map Value.string).toArray t (0,0)))(hs:∀s∈l,s.size<=9223372036854775807):
  mq w w' (.row .own 1 (some (g,0,none)) l.length l.length λi _=>.str (l.getD i ByteArray.empty)):=by
 have hm:∀j,j<l.length->l.getD j ByteArray.empty∈l:=λj hj=>by simp[List.getD,hj]
 refine⟨λZ=>⟨ez _,λi j hi hj=>⟨g,0,rfl,?_,λh=>absurd rfl h⟩,λi j hi hj=>⟨trivial,trivial,trivial,hs _ (hm i hi)⟩,λ_=>.inr ⟨g,0,_,t,(0,0),rfl,hb,?_,λk _ _=>?_⟩,λi j hi hj b k hf=>hf.elim⟩,trivial,λb k hf=>?_⟩
 ·obtain rfl:j=0:=by omega
  simp only[World.cell?,hb];simp[C.val,hi,Go.Value.oneCell']
 ·simp
 ·simp[World.frozen?,hb]
 ·obtain⟨_,h|⟨i,j,_,_,h⟩⟩:=hf;·obtain⟨o,h⟩:=h;have hgb:=cK Prod.fst (e8 h);have hgb:g=b:=hgb;exact hgb▸hg
  ·exact h.elim
def Rg(l:List ByteArray)(g cap:Nat):(C.row .own 1 (some (g,0,none)) l.length cap λi _=>.str (l.getD i ByteArray.empty)).er=.row .own 1 (l.map λs=>[.str s]):=by show X.row _ _ _=_;congr 1;have:=Co l ByteArray.empty λs=>[X.str s];rw[<-this];rfl
def Lu{c:C}{m:Md}{z:Nat}{xs:List (List X)}(h:c.er=.row m z xs):∃A len cap e,c=.row m z A len cap e/\len=xs.length/\∀i,i<len->xs[i]?=some ((List.range z).map λj=>(e i j).er):=by
 cases c with
 |row m' z' A len cap e=>simp only[C.er,X.row.injEq] at h;obtain⟨rfl,rfl,h⟩:=h;refine⟨A,len,cap,e,rfl,by rw[<-h];simp,λi hi=>?_⟩;rw[<-h];simp[hi]
 |_=>simp[C.er] at h
end M
namespace M
open Go
def rT(s:ai):X:=.str ⟨s.toArray⟩
def Cw(l:List ai):X:=.row .own 1 (l.map eS)
def zj:List X->Option X
 |[.str s,.str c]=>if c.data.toList=[32]/\s.size<=9223372036854775807 then some (rT (dH s.data.toList)) else none
 |_=>none
def y9:List X->Option X
 |[.str s,.str c]=>if s.size<4294967281/\1<=c.size then some (Cw (Lib.split s.data.toList c.data.toList)) else none
 |_=>none
def wA:List X->Option X
 |[.str s,.str c]=>if s.size<=9223372036854775807 then some (.aq [rT (Lib.trimPrefix s.data.toList c.data.toList),.bool (Lib.hasPrefix s.data.toList c.data.toList)]) else none
 |_=>none
def ya:List X->Option X
 |[.str s]=>if s.size<=9223372036854775807 then some (match b9 s.data.toList with
  |some n=>.aq [.int .i64 n,.bool true]
  |none=>.aq [.int .i64 0,.bool false]) else none
 |_=>none
def mP(f:ax):ai:=f.name++[58,32]++f.value++[13,10]
def ff(l:List ax):ai:=l.flatMap mP
def mR:List (List X)->Option (List ax)
 |[]=>some []
 |[.str a,.str b]::r=>(mR r).map λl=>⟨a.data.toList,b.data.toList⟩::l
 |_=>none
def wM:List X->Option X
 |[.row .ah 2 rows]=>(match mR rows with
  |some l=>if (ff l).length<=140737488355328/\l.length<=140737488355328 then some (rT (ff l)) else none
  |none=>none)
 |_=>none
def FE:∀l:List ax,mR (l.map aE)=some l
 |[]=>rfl
 |f::l=>by simp[mR,FE l]
def count_nil(c:UInt8):Lib.count [] [c]=0:=by rw[Lib.count_one];rfl
def Rz(c:UInt8):∀s:ai,Lib.split s [c]=ct c s:=by
 have key:∀(n:Nat) (s:ai),s.length<=n->Lib.splitK [c] 0 (Lib.count s [c]) s=ct c s:=by
  intro n;induction n with
  |zero=>intro s hs;obtain rfl:s=[]:=Jc.1 (by omega);rw[count_nil];rfl
  |succ n ih=>
   intro s hs;cases s with
   |nil=>rw[count_nil];rfl
   |cons b s=>
    simp at hs;have xQ:=ih s (by omega);by_cases hb:b=c;·subst hb;rw[Lib.count_cons_eq,nT];have hi:Lib.index (b::s) [b]=0:=Lib.index_first (i:=0) (pS _) (by simp[Lib.occAt]) (λ_ h=>absurd h (Nat.not_lt_zero _));simp only[Lib.splitK,hi,ct];simp[xQ]
    ·rw[Lib.count_cons_ne _ _ _ hb]
     have hnext:Lib.index (b::s) [c]=if Lib.index s [c]=-1 then -1 else Lib.index s [c]+1:=by
      have h:=Lib.index_drop (s:=b::s) (sub:=[c]) (i:=1) (λj hj=>by
       obtain rfl:j=0:=by omega
       simp[Lib.occAt,List.isPrefixOf,Ne.symm hb]) (by simp)
      simp at h;exact h
     rw[ct,aC hb,<-xQ];cases hk:Lib.count s [c] with
     |zero=>simp[Lib.splitK]
     |succ k=>
      simp only[Lib.splitK,hnext];by_cases h1:Lib.index s [c]=-1;·simp[h1]
      ·have h0:0<=Lib.index s [c]:=by have:-1<=Lib.index s [c]:=Lib.index_ge _ _;omega
       have h2:¬Lib.index s [c]+1=-1:=by omega
       have h3:(Lib.index s [c]+1).toNat=(Lib.index s [c]).toNat+1:=by omega
       simp[h1,h2,h3]
 intro s;exact key s.length s (ez _)
end M
namespace M
open Go
def cS{β:Type}(p:β->Bool)(l:List β):Nat:=(l.takeWhile λb=> !p b).length
def GP{β:Type}{f:af->bx}(l:List β)(st:Nat->af)(p:β->Bool)(E:Nat->af){x:Nat}
  (h:∀i b,l[i]?=some b->i<l.length->f (st i)=if p b=true then some (.exit x,E i) else some (.normal,st (i+1)))
  (hend:f (st l.length)=some (.exit x,E l.length)):aT f (st 0)=some (.exit x,E (cS p l)):=by
 suffices H:∀(r:List β) (i:Nat),l.drop i=r->i<=l.length->aT f (st i)=some (.exit x,E (i+cS p r)) by have:=H l 0 rfl (pS _);rwa [j6] at this
 intro r;induction r with
 |nil=>
  intro i hr hi;have:i=l.length:=by have:=cK List.length hr;simp at this;omega
  subst this;rw[dS,hend];rfl
 |cons b r ih=>
  intro i hr hi;have hb:l[i]?=some b:=by have:=cK (λt:List β=>t[0]?) hr;simpa using this
  have hlt:i<l.length:=(br.1 hb).1;have hd:l.drop (i+1)=r:=by have:=cK List.tail hr;simpa using this
  rw[dS,h i b hb hlt];unfold cS;by_cases hp:p b=true;·simp[hp,dG]
  ·have:=ih (i+1) hd hlt;simp only[hp];have e:i+1+cS p r=i+(cS p r+1):=by omega
   rw[e] at this;simp[hp,dG,this,cS]
def zn{β:Type}(p:β->Bool)(l:List β):cS p l<=l.length:=by unfold cS;exact(List.takeWhile_sublist _).length_le
def Is{β:Type}(p:β->Bool):∀(l:List β) (j:Nat) (b:β),j<cS p l->l[j]?=some b->p b=false
 |[],j,b,h,_=>by simp[cS] at h
 |a::l,j,b,h,hb=>by
  unfold cS at h;rw[I0] at h;by_cases hp:p a=true;·simp[hp] at h
  ·simp only[hp,Dw,cU,cw] at h;cases j with
   |zero=>simp at hb;subst hb;simpa using hp
   |succ j=>exact Is p l j b (by unfold cS;omega) (by simpa using hb)
def Ir{β:Type}(p:β->Bool):∀(l:List β) (b:β),l[cS p l]?=some b->p b=true
 |[],b,h=>by simp at h
 |a::l,b,h=>by
  unfold cS at h;rw[I0] at h;by_cases hp:p a=true;·simp[hp] at h;subst h;exact hp
  ·simp only[hp,Dw,cU,cw,DE] at h;exact Ir p l b h
def fX(c:UInt8)(f:ai->List ai)(s:ai)(i:Nat)(g:List ai×Nat)(b:Option UInt8):List ai×Nat:=match b with
 |some b=>if b=c then (g.1++f ((s.take i).drop g.2),i+1) else g
 |none=>(g.1++f ((s.take i).drop g.2),i+1)
def CT(c:UInt8):∀(cur rest:ai),(∀b∈cur,b≠c)->ct c (cur++rest)=match ct c rest with
  |w::ws=>(cur++w)::ws
  |[]=>[cur]
 |[],rest,_=>by
  cases h:ct c rest with
  |nil=>exact absurd h (HW c rest)
  |cons w ws=>simpa using h
 |a::cur,rest,h=>by rw[gN,ct,aC (h a (bE ..)),CT c cur rest λb hb=>h b (bU _ hb)];cases ct c rest<;>simp
def Rx(c:UInt8)(cur:ai)(h:∀b∈cur,b≠c):ct c cur=[cur]:=by have:=CT c cur [] h;simpa [ct] using this
def CW:∀(p cur rest:ai),((p++(cur++rest)).take (p.length+cur.length)).drop p.length=cur
 |[],cur,rest=>by simp
 |a::p,cur,rest=>by have:=CW p cur rest;simp only[cw,gN,show p.length+1+cur.length=p.length+cur.length+1 by omega,I2,List.drop_succ_cons];exact this
def Ns(c:UInt8)(f:ai->List ai)(s:ai):foldI (fX c f s) 0 (s.map some++[none]) ([],0)=((ct c s).flatMap f,s.length+1):=by
 suffices H:∀(rest p cur:ai) (out:List ai),s=p++cur++rest->(∀b∈cur,b≠c)->foldI (fX c f s) (p.length+cur.length) (rest.map some++[none]) (out,p.length)=(out++(ct c (cur++rest)).flatMap f,s.length+1) by have:=H s [] [] [] rfl (by simp);simpa using this
 intro rest;induction rest with
 |nil=>intro p cur out hs hc;simp only[nW] at hs⊢;rw[Rx c cur hc];subst hs;have e1:=CW p cur [];rw[nW] at e1;simp[foldI,fX,e1]
 |cons b rest ih=>
  intro p cur out hs hc;simp only[aS,gN,foldI];by_cases hb:b=c
  ·subst hb;have e1:(s.take (p.length+cur.length)).drop p.length=cur:=by subst hs;have:=CW p cur (b::rest);rwa [<-nV] at this
   have:=ih (p++cur++[b]) [] (out++f cur) (by simp[hs]) (by simp);simp only[fT,cw,iA,pP] at this;simp only[fX,cU,e1];rw[show p.length+cur.length+1=p.length+cur.length+(0+1)+0 by omega,this,CT b cur (b::rest) hc];simp[ct]
  ·have:=ih p (cur++[b]) out (by simp[hs]) (by
    intro x hx;rcases dz.1 hx with hx|hx;·exact hc x hx
    ·rw[ew.1 hx];exact hb)
   simp only[fT,cw,iA] at this;simp only[fX,hb,iZ];rw[show p.length+cur.length+1=p.length+(cur.length+(0+1)) by omega,this];simp
def ID(s:ai):fS s=(ct 44 s).flatMap λw=>if dH w≠[] then [dH w] else []:=by
 unfold fS;induction ct 44 s with
 |nil=>rfl
 |cons w l ih=>simp only[aS,zM,gO,<-ih];by_cases h:dH w=[]<;>simp[h]
@[simp] def VJ(l:List UInt8):l.map (λb:UInt8=>[X.int IntKind.u8 (b.toNat:Int)])=l.map eU:=rfl
@[simp] def XX(l:List UInt8):lX (l.map eU)=some l:=C8 l
def CV(c:UInt8):∀s:ai,((ct c s).map List.length).sum+(ct c s).length=s.length+1
 |[]=>rfl
 |b::s=>by
  have:=CV c s;unfold ct;split;·simp;omega
  ·cases h:ct c s with
   |nil=>exact absurd h (HW c s)
   |cons w ws=>rw[h] at this;simp at this⊢;omega
def HU(c:UInt8)(s:ai):(ct c s).length<=s.length+1:=by have:=CV c s;omega
def HV(c:UInt8)(s:ai):∀w∈ct c s,w.length<=s.length:=by
 intro w hw;have h:=CV c s
 have h1:w.length+1<=((ct c s).map List.length).sum+(ct c s).length:=by
  clear h;revert hw;generalize ct c s=l;intro hw;induction l with
  |nil=>cases hw
  |cons x l ih=>
   rcases bA.1 hw with rfl|hw;·simp;omega
   ·have:=ih hw;simp;omega
 omega
def GQ(b:UInt8)(h:65<=b.toNat/\b.toNat<=90):(b+32).toNat=b.toNat+32:=by rw[UInt8.toNat_add];have:(32:UInt8).toNat=32:=rfl;omega
def IF{n:Int}(h1:0<=n)(h2:n<256):IntKind.u8.wrap n=n:=IG h1 h2
end M
namespace M
def A6{β γ:Type}(φ:β->List γ)(hφ:∀b,(φ b).length<=1)(l:List β)(i:Nat):((l.take i).flatMap φ).length<=i:=by
 induction l generalizing i with
 |nil=>simp
 |cons b l ih=>
  cases i with
  |zero=>simp
  |succ i=>have:=ih i;have:=hφ b;simp only[I2,gO,fT];omega
end M
namespace M
@[simp] def UL(i:Nat):((i:Int)<0)=False:=by simp
end M
namespace M
def gd{α:Type}(f:α->α)(l:List α)(i:Nat):List α:=(l.take i).map f++l.drop i
@[simp] def WK{α:Type}(f:α->α)(l:List α)(i:Nat):(gd f l i).length=l.length:=by simp[gd];omega
def Pj{α:Type}(f:α->α)(l:List α):gd f l 0=l:=by simp[gd]
def Pe{α:Type}(f:α->α)(l:List α):gd f l l.length=l.map f:=by simp[gd]
def Pf{α:Type}(f:α->α)(l:List α)(i:Nat)(h:i<l.length):(gd f l i)[i]?=some l[i]:=by
 unfold gd;rw[jy (by simp;omega)];have:i - ((l.take i).map f).length=0:=by simp;omega
 rw[this];simp[h]
def Pg{α:Type}(f:α->α)(l:List α)(i:Nat)(h:i<l.length)(h':i<(gd f l i).length):(gd f l i)[i]=l[i]:=by have:=Pf f l i h;rw[bH h'] at this;exact e8 this
def Ph{α:Type}(f:α->α)(l:List α)(i:Nat)(h:i<l.length):(gd f l i).set i (f l[i])=gd f l (i+1):=by
 unfold gd;rw[Dl _ _ (by simp;omega),su h];have:i - ((l.take i).map f).length=0:=by simp;omega
 rw[this,r8 h];simp only[Dm,jb,aS,jA,nV,gN,pP]
end M
namespace M
@[simp] def Pn(m:Md):∀(i:Nat) (l:List (List X)),X.bq m (l.take i)=(X.bq m l).take i
 |0,l=>by simp[X.bq]
 |i+1,[]=>by simp[X.bq]
 |i+1,a::l=>by simp[X.bq,Pn m i l]
@[simp] def Pm(m:Md):∀(i:Nat) (l:List (List X)),X.bq m (l.drop i)=(X.bq m l).drop i
 |0,l=>by simp
 |i+1,[]=>by simp[X.bq]
 |i+1,a::l=>by simp[X.bq,Pm m i l]
end M
namespace M
open Go
abbrev ij:ai:=[99,111,110,116,101,110,116,45,108,101,110,103,116,104]
abbrev gi:ai:=[99,97,99,104,101,45,99,111,110,116,114,111,108]
abbrev gK:ai:=[101,116,97,103]
abbrev gj:ai:=[118,97,114,121]
abbrev bR:ai:=[97,103,101]
abbrev kF:ai:=[105,102,45,110,111,110,101,45,109,97,116,99,104]
def IC{l:List ai}{a:ai}(h:a∈l):a.length<=wL wS l:=Db (w:=wS) h
def zo{l:List ax}{a:ax}(h:a∈l):a.name.length+a.value.length<=wL aB l:=Db (w:=aB) h
def ck(fs:List ax)(n:ai):Option (Nat×ax):=dK (λf=>decide (f.name=n)) 0 fs
def cV(o:Option (Nat×ax)):Int:=o.elim (-1) λx=>(x.1:Int)
def bP(fs:List ax)(n:ai):Option ai:=(ck fs n).map λx=>x.2.value
def od{fs:List ax}{n:ai}{i:Nat}{f:ax}(h:ck fs n=some (i,f)):∃hi:i<fs.length,fs[i]=f/\f.name=n:=by obtain⟨_,h2,h3⟩:=qw h;simp at h2 h3;obtain⟨hi,e⟩:=br.1 h2;exact⟨hi,e,h3⟩
def kn(fs:List ax)(n:ai):((bP fs n).getD []).length<=wL aB fs:=by
 unfold bP;cases h:ck fs n with
 |none=>simp
 |some x=>obtain⟨i,f⟩:=x;obtain⟨hi,rfl,_⟩:=od h;have:=zo (dy hi);simp;omega
def fh(fs:List ax)(x:ax×Nat):Bool:=eY x.1.name && eZ x.1.value && decide (cV (ck fs x.1.name)=x.2) && !decide (x.1.name=ij)
def ef(fs:List ax):Bool:=cj (fh fs) fs.zipIdx && decide ((fs.length:Int)<=8)
def dh(fs:List ax)(n v:ai):List ax:=match ck fs n with
 |some x=>fs.set x.1 ⟨x.2.name,v⟩
 |none=>fs++[⟨n,v⟩]
def H8{α:Type}(w:α->Nat):∀(l:List α) (i:Nat) (a:α) (h:i<l.length),((l.set i a).map w).sum+w l[i]=(l.map w).sum+w a
 |b::l,0,a,_=>by simp;omega
 |b::l,i+1,a,h=>by have:=H8 w l i a (by simpa using h);simp at this⊢;omega
def q9(fs:List ax)(n v:ai):wL aB (dh fs n v)<=wL aB fs+n.length+v.length+1:=by
 unfold dh;cases h:ck fs n with
 |none=>simp[wL,aB];omega
 |some x=>obtain⟨i,f⟩:=x;obtain⟨hi,rfl,h3⟩:=od h;have:=H8 aB fs i ⟨fs[i].name,v⟩ hi;simp only[wL,List.length_set];simp only[aB] at this⊢;omega
def Q3(fs:List ax)(n v:ai):(dh fs n v).length<=fs.length+1:=by
 unfold dh;cases h:ck fs n with
 |none=>simp
 |some x=>simp
def cI(r:bh):Bool:=decide (100<=r.status/\r.status<=599) && ef r.fields && decide ((r.body.length:Int)<=120)
def js(q:Rq):Bool:=decide (1<=q.method/\q.method<=4) && iR q.path && ef q.fields && decide ((q.body.length:Int)<=120)
def within(n:Int):Int:=max 0 (min n 1000000)
def plus(a b:Int):Int:=within (within a+within b)
def since(t now:Int):Int:=if now<=t then 0 else min (now - t) 1000000
def sF(fs:List ax):Int:=match bP fs bR with
 |some v=>match b9 v with
  |some n=>n
  |none=>1000000
 |none=>0
def cx(fs:List ax)(t now:Int):Int:=plus (sF fs) (since t now)
def dm(fs:List ax):List ai:=(fS ((bP fs gj).getD [])).map bz
def kE(l:List ai):Bool:=cj eY l && decide ((l.length:Int)<=4)
def fO(q:Rq)(fs:List ax):Bool:=(bP q.fields kF).isSome && (bP fs gK).isSome && decide ((bP q.fields kF).getD []=(bP fs gK).getD [])
def di(f:ax):Bool:=decide (f.name=gK)||decide (f.name=gj)||decide (f.name=gi)
def fy(r:bh):bh:=⟨304,r.fields.filter di,[]⟩
def gm(o:Ob):Bool:=cI o.resp && iR o.path && decide (0<=o.t/\o.t<=1000000) && kE o.names && decide (o.names=dm o.resp.fields) && decide (o.values.length=o.names.length) && cj eZ o.values
def Ef(b:Bn):Bool:=decide (0<=b.t/\b.t<=1000000) && (if b.kind=1\/b.kind=2 then iR b.a && decide (b.b=[]) else if b.kind=3 then eY b.a && eZ b.b else false)
def P7(w:Wr):Bool:=decide (0<=w.at_/\w.at_<=19)
def G7(d:mh):Bool:=cj P7 d.pending && decide ((d.cells.length:Int)=20) && decide ((d.pending.length:Int)<=16)
def QY(l:List Kp)(i:Nat):Int:=if i=0 then 0 else (l[i - 1]?.map λk=>k.seq).getD 0
def O3(S:Int)(l:List Kp)(x:Kp×Nat):Bool:=gm x.1.obj && decide (5<=x.1.at_/\x.1.at_<=19) && cj (λy=>decide ¬y.at_=x.1.at_) (l.take x.2) && decide (QY l x.2<x.1.seq) && decide (x.1.seq<S)
def G5(S:Int)(l:List Kp):Bool:=cj (O3 S l) l.zipIdx
def HP(s:Sh):Bool:=G7 s.iF && decide ((s.iC.length:Int)<=5) && decide (5<=s.next/\s.next<=19) && decide (1<=s.seq/\s.seq<=100000) && cj Ef s.iC && G5 s.seq s.nC
def answer(q:Rq)(o:Ob)(now:Int):bh:=
 let out:=if fO q o.resp.fields=true then fy o.resp else o.resp
 let w:bh:=⟨out.status,dh out.fields bR (bG (cx o.resp.fields o.t now)),out.body⟩
 if cI w=true then w else out
def CS(r:bh):wL aB (r.fields.filter di)<=wL aB r.fields:=by
 unfold wL;have h1:=DK di r.fields
 have h2:((r.fields.filter di).map aB).sum<=(r.fields.map aB).sum:=by
  generalize r.fields=l;induction l with
  |nil=>simp
  |cons a l ih=>rw[zM];split<;>simp<;>omega
 omega
end M
namespace M
open Go
def dU(_:Int)(k:Int):Int:=k
def cW(_:ai)(k:Int):ai:=ug k
def GU(_:Bool)(k:Int):Bool:=decide (k.tmod 3=0)
def aO{α:Type}(_:α):Nat:=1
def cP{α:Type}(mk:α->Int->α)(n:α->Nat):List α->Int->List α
 |[],_=>[]
 |a::l,k=>mk a k::cP mk n l (k+(n a:Nat))
def nL{α:Type}(n:α->Nat)(l:List α):Nat:=(l.map n).sum
@[simp] def Pt{α:Type}(mk:α->Int->α)(n:α->Nat):∀(l:List α) (k:Int),(cP mk n l k).length=l.length
 |[],_=>rfl
 |a::l,k=>by simp[cP,Pt mk n l]
def kD(a:ax)(k:Int):ax:=⟨cW a.name (k),cW a.value (k+1)⟩
def aM(a:ax):Nat:=2
def Pz(a:Wr)(k:Int):Wr:=⟨dU a.at_ (k),cW a.text (k+1)⟩
def EZ(a:Wr):Nat:=2
def Pw(a:Kp)(k:Int):Kp:=⟨⟨cW a.obj.path (k),cP cW aO a.obj.names (k+1),cP cW aO a.obj.values (k+1+(nL aO a.obj.names:Nat)),⟨dU a.obj.resp.status (k+1+(nL aO a.obj.names:Nat)+(nL aO a.obj.values:Nat)),cP kD aM a.obj.resp.fields (k+1+(nL aO a.obj.names:Nat)+(nL aO a.obj.values:Nat)+1),cW a.obj.resp.body (k+1+(nL aO a.obj.names:Nat)+(nL aO a.obj.values:Nat)+1+(nL aM a.obj.resp.fields:Nat))⟩,dU a.obj.t (k+1+(nL aO a.obj.names:Nat)+(nL aO a.obj.values:Nat)+1+(nL aM a.obj.resp.fields:Nat)+1)⟩,dU a.at_ (k+1+(nL aO a.obj.names:Nat)+(nL aO a.obj.values:Nat)+1+(nL aM a.obj.resp.fields:Nat)+1+1),dU a.seq (k+1+(nL aO a.obj.names:Nat)+(nL aO a.obj.values:Nat)+1+(nL aM a.obj.resp.fields:Nat)+1+1+1)⟩
def AE(a:Kp):Nat:=6+nL aO a.obj.names+nL aO a.obj.values+nL aM a.obj.resp.fields
def Pu(a:Bn)(k:Int):Bn:=⟨dU a.kind (k),cW a.a (k+1),cW a.b (k+1+1),dU a.t (k+1+1+1)⟩
def EX(a:Bn):Nat:=4
def Pv(a:Fl)(k:Int):Fl:=⟨⟨dU a.q.method (k),cW a.q.path (k+1),cP kD aM a.q.fields (k+1+1),cW a.q.body (k+1+1+(nL aM a.q.fields:Nat))⟩,cP dU aO a.who (k+1+1+(nL aM a.q.fields:Nat)+1),⟨cW a.old.path (k+1+1+(nL aM a.q.fields:Nat)+1+(nL aO a.who:Nat)),cP cW aO a.old.names (k+1+1+(nL aM a.q.fields:Nat)+1+(nL aO a.who:Nat)+1),cP cW aO a.old.values (k+1+1+(nL aM a.q.fields:Nat)+1+(nL aO a.who:Nat)+1+(nL aO a.old.names:Nat)),⟨dU a.old.resp.status (k+1+1+(nL aM a.q.fields:Nat)+1+(nL aO a.who:Nat)+1+(nL aO a.old.names:Nat)+(nL aO a.old.values:Nat)),cP kD aM a.old.resp.fields (k+1+1+(nL aM a.q.fields:Nat)+1+(nL aO a.who:Nat)+1+(nL aO a.old.names:Nat)+(nL aO a.old.values:Nat)+1),cW a.old.resp.body (k+1+1+(nL aM a.q.fields:Nat)+1+(nL aO a.who:Nat)+1+(nL aO a.old.names:Nat)+(nL aO a.old.values:Nat)+1+(nL aM a.old.resp.fields:Nat))⟩,dU a.old.t (k+1+1+(nL aM a.q.fields:Nat)+1+(nL aO a.who:Nat)+1+(nL aO a.old.names:Nat)+(nL aO a.old.values:Nat)+1+(nL aM a.old.resp.fields:Nat)+1)⟩,GU a.xb (k+1+1+(nL aM a.q.fields:Nat)+1+(nL aO a.who:Nat)+1+(nL aO a.old.names:Nat)+(nL aO a.old.values:Nat)+1+(nL aM a.old.resp.fields:Nat)+1+1)⟩
def AD(a:Fl):Nat:=8+nL aM a.q.fields+nL aO a.who+nL aO a.old.names+nL aO a.old.values+nL aM a.old.resp.fields
def Py(a:Se)(k:Int):Se:=⟨⟨dU a.q.method (k),cW a.q.path (k+1),cP kD aM a.q.fields (k+1+1),cW a.q.body (k+1+1+(nL aM a.q.fields:Nat))⟩,⟨dU a.resp.status (k+1+1+(nL aM a.q.fields:Nat)+1),cP kD aM a.resp.fields (k+1+1+(nL aM a.q.fields:Nat)+1+1),cW a.resp.body (k+1+1+(nL aM a.q.fields:Nat)+1+1+(nL aM a.resp.fields:Nat))⟩,dU a.t (k+1+1+(nL aM a.q.fields:Nat)+1+1+(nL aM a.resp.fields:Nat)+1)⟩
def EY(a:Se):Nat:=6+nL aM a.q.fields+nL aM a.resp.fields
def Px(a:Rp)(k:Int):Rp:=⟨dU a.client (k),⟨dU a.q.method (k+1),cW a.q.path (k+1+1),cP kD aM a.q.fields (k+1+1+1),cW a.q.body (k+1+1+1+(nL aM a.q.fields:Nat))⟩,⟨dU a.resp.status (k+1+1+1+(nL aM a.q.fields:Nat)+1),cP kD aM a.resp.fields (k+1+1+1+(nL aM a.q.fields:Nat)+1+1),cW a.resp.body (k+1+1+1+(nL aM a.q.fields:Nat)+1+1+(nL aM a.resp.fields:Nat))⟩,dU a.kind (k+1+1+1+(nL aM a.q.fields:Nat)+1+1+(nL aM a.resp.fields:Nat)+1),dU a.t (k+1+1+1+(nL aM a.q.fields:Nat)+1+1+(nL aM a.resp.fields:Nat)+1+1),⟨cW a.obj.path (k+1+1+1+(nL aM a.q.fields:Nat)+1+1+(nL aM a.resp.fields:Nat)+1+1+1),cP cW aO a.obj.names (k+1+1+1+(nL aM a.q.fields:Nat)+1+1+(nL aM a.resp.fields:Nat)+1+1+1+1),cP cW aO a.obj.values (k+1+1+1+(nL aM a.q.fields:Nat)+1+1+(nL aM a.resp.fields:Nat)+1+1+1+1+(nL aO a.obj.names:Nat)),⟨dU a.obj.resp.status (k+1+1+1+(nL aM a.q.fields:Nat)+1+1+(nL aM a.resp.fields:Nat)+1+1+1+1+(nL aO a.obj.names:Nat)+(nL aO a.obj.values:Nat)),cP kD aM a.obj.resp.fields (k+1+1+1+(nL aM a.q.fields:Nat)+1+1+(nL aM a.resp.fields:Nat)+1+1+1+1+(nL aO a.obj.names:Nat)+(nL aO a.obj.values:Nat)+1),cW a.obj.resp.body (k+1+1+1+(nL aM a.q.fields:Nat)+1+1+(nL aM a.resp.fields:Nat)+1+1+1+1+(nL aO a.obj.names:Nat)+(nL aO a.obj.values:Nat)+1+(nL aM a.obj.resp.fields:Nat))⟩,dU a.obj.t (k+1+1+1+(nL aM a.q.fields:Nat)+1+1+(nL aM a.resp.fields:Nat)+1+1+1+1+(nL aO a.obj.names:Nat)+(nL aO a.obj.values:Nat)+1+(nL aM a.obj.resp.fields:Nat)+1)⟩,dU a.iC (k+1+1+1+(nL aM a.q.fields:Nat)+1+1+(nL aM a.resp.fields:Nat)+1+1+1+1+(nL aO a.obj.names:Nat)+(nL aO a.obj.values:Nat)+1+(nL aM a.obj.resp.fields:Nat)+1+1)⟩
def Lh(a:Rp):Nat:=13+nL aM a.q.fields+nL aM a.resp.fields+nL aO a.obj.names+nL aO a.obj.values+nL aM a.obj.resp.fields
def vt(a:Rq)(k:Int):Rq:=⟨a.method,a.path,cP kD aM a.fields (k),a.body⟩
@[simp] def XQ(a:Rq)(k:Int):(vt a k).method=a.method:=rfl
@[simp] def XR(a:Rq)(k:Int):(vt a k).path=a.path:=rfl
@[simp] def XP(a:Rq)(k:Int):(vt a k).body=a.body:=rfl
def C3(a:Rq):Nat:=nL aM a.fields
def rV(a:bh)(k:Int):bh:=⟨a.status,cP kD aM a.fields (k),a.body⟩
@[simp] def XT(a:bh)(k:Int):(rV a k).status=a.status:=rfl
@[simp] def XS(a:bh)(k:Int):(rV a k).body=a.body:=rfl
def RO(a:bh):Nat:=nL aM a.fields
def CZ(a:Ob)(k:Int):Ob:=⟨a.path,cP cW aO a.names (k),cP cW aO a.values (k+(nL aO a.names:Nat)),rV a.resp (k+(nL aO a.names:Nat)+(nL aO a.values:Nat)),a.t⟩
@[simp] def XL(a:Ob)(k:Int):(CZ a k).path=a.path:=rfl
@[simp] def XM(a:Ob)(k:Int):(CZ a k).resp=rV a.resp (k+(nL aO a.names:Nat)+(nL aO a.values:Nat)):=rfl
@[simp] def XO(a:Ob)(k:Int):(CZ a k).t=a.t:=rfl
def Ie(a:mh)(k:Int):mh:=⟨cP cW aO a.cells (k),cP Pz EZ a.pending (k+(nL aO a.cells:Nat))⟩
def C0(a:mh):Nat:=nL aO a.cells+nL EZ a.pending
def vu(a:Sh)(k:Int):Sh:=⟨Ie a.iF (k),cP Pw AE a.nC (k+(C0 a.iF:Nat)),cP Pu EX a.iC (k+(C0 a.iF:Nat)+(nL AE a.nC:Nat)),a.next,a.seq⟩
@[simp] def XU(a:Sh)(k:Int):(vu a k).iF=Ie a.iF (k):=rfl
@[simp] def XV(a:Sh)(k:Int):(vu a k).next=a.next:=rfl
@[simp] def XW(a:Sh)(k:Int):(vu a k).seq=a.seq:=rfl
def C4(a:Sh):Nat:=C0 a.iF+nL AE a.nC+nL EX a.iC
def Ic(a:Ca)(k:Int):Ca:=⟨vu a.fQ (k),cP Pv AD a.jI (k+(C4 a.fQ:Nat)),a.now,cP Py EY a.seen (k+(C4 a.fQ:Nat)+(nL AD a.jI:Nat)),cP Px Lh a.sent (k+(C4 a.fQ:Nat)+(nL AD a.jI:Nat)+(nL EY a.seen:Nat))⟩
@[simp] def XE(a:Ca)(k:Int):(Ic a k).fQ=vu a.fQ (k):=rfl
@[simp] def XD(a:Ca)(k:Int):(Ic a k).now=a.now:=rfl
def rU(a:De)(k:Int):De:=⟨a.kind,a.client,vt a.q (k),a.a,rV a.resp (k+(C3 a.q:Nat)),a.mD,cP GU aO a.keep (k+(C3 a.q:Nat)+(RO a.resp:Nat))⟩
@[simp] def XI(a:De)(k:Int):(rU a k).kind=a.kind:=rfl
@[simp] def XH(a:De)(k:Int):(rU a k).client=a.client:=rfl
@[simp] def XJ(a:De)(k:Int):(rU a k).q=vt a.q (k):=rfl
@[simp] def XF(a:De)(k:Int):(rU a k).a=a.a:=rfl
@[simp] def XK(a:De)(k:Int):(rU a k).resp=rV a.resp (k+(C3 a.q:Nat)):=rfl
@[simp] def XG(a:De)(k:Int):(rU a k).mD=a.mD:=rfl
end M
namespace M
open Go Go.RowKit
def j9.cell[B:Bs]{w:World}(h:j9 w){b k:Nat}{v:Value}(hc:B.W0.cell? ⟨b,k,none⟩=some v):w.cell? ⟨b,k,none⟩=some v:=by
 have hb:b<B.W0.heap.size:=by
  rcases fA b B.W0.heap.size with h|h;·exact h
  ·simp[World.cell?,ja h] at hc
 have e:=h b hb;simpa [World.cell?,e] using hc
def Kk(w:World):Below w.heap.size w w.drew:=(Below.refl _ _).drew
def C7{cs:List C}{s c:ByteArray}(h:cs.map C.er=[.str s,.str c]):cs=[.str s,.str c]:=by obtain⟨a,r,rfl,h1,h2⟩:=map_cons h;obtain⟨b,r',rfl,h3,h4⟩:=map_cons h2;obtain rfl:=map_nil h4;rw[s8 h1,s8 h3]
def Qa{cs:List C}{s:ByteArray}(h:cs.map C.er=[.str s]):cs=[.str s]:=by obtain⟨a,r,rfl,h1,h2⟩:=map_cons h;obtain rfl:=map_nil h2;rw[s8 h1]
def TD[Bs]{P:Program}{f0:FuncId}(hc:∀(s:ByteArray) (c:UInt8),c.toNat<128->∀w,s.size<=9223372036854775807->
  Calls P f0 #[.string s,.string ⟨#[c]⟩] w λe w'=>e=.returned (.string ⟨(Lib.trimB s.data.toList c).toArray⟩)/\(w'=w\/w'=w.drew)):(eV f0 zj).Sound P:=
 uq λxs r hg w zl zb cs hx hA hs=>by
  unfold zj at hg;split at hg
  ·rename_i s c;split at hg
   ·rename_i hh;cases hg;obtain rfl:=C7 hx;have e:c=⟨#[32]⟩:=by have:=cK List.toArray hh.1;simp at this;cases c;simp at this;rw[this]
    subst e;refine(hc s 32 (by decide) w hh.2).mono λe w' ⟨he,hw⟩=>⟨.str ⟨(dH s.data.toList).toArray⟩,he,rfl,?_,A9 ?_⟩
    ·rcases hw with rfl|rfl;·exact Below.refl _ _
     ·exact Kk _
    ·have:=Ik s.data.toList;have h2:=hh.2;simp only[ByteArray.size] at h2⊢;simp at this⊢;omega
   ·cases hg
  ·cases hg
def Ry[B:Bs]{P:Program}{f0:FuncId}{g1:Nat}{t9:TypeId}(hm:∃m,B.W0.cell? ⟨g1,0,none⟩=some (.int .i64 m))(hc:∀(s sep:ByteArray) (m:Int) (w:World),s.size<4294967281->w.cell? ⟨g1,0,none⟩=some (.int .i64 m)->1<=sep.size->
  Calls P f0 #[.string s,.string sep] w λe w'=>e=.returned (.slice (some ⟨w.heap.size,0,none⟩) (Lib.countB s sep+1) (Lib.countB s sep+1))/\w'=w.alloc (.cells ((Lib.splitB sep 0 (Lib.countB s sep) s).map Value.string).toArray t9)):(eV f0 y9).Sound P:=
 uq λxs r hg w zl zb cs hx hA hs=>by
  unfold y9 at hg;split at hg
  ·rename_i s c;split at hg
   ·rename_i hh;cases hg;obtain rfl:=C7 hx;obtain⟨m,hm⟩:=hm;have hlen:=Lib.splitB_all c hh.2 0 _ s rfl;have Ge:=Lib.splitB_data c 0 (Lib.countB s c) s;refine(hc s c m w hh.1 (hs.cell hm) hh.2).mono λe w' ⟨he,hw⟩=>?_;subst hw;refine⟨.row .own 1 (some (w.heap.size,0,none)) (Lib.splitB c 0 (Lib.countB s c) s).length (Lib.splitB c 0 (Lib.countB s c) s).length λi _=>.str ((Lib.splitB c 0 (Lib.countB s c) s).getD i ByteArray.empty),?_,?_,?_,?_⟩;·rw[he,hlen];rfl
    ·rw[Rg];unfold Cw;congr 1;have:Lib.split s.data.toList c.data.toList=(Lib.splitB c 0 (Lib.countB s c) s).map (·.data.toList):=Ge.symm;rw[this,bT];refine bn λx _=>?_;simp
    ·exact(Below.refl _ _).alloc (ez _) _
    ·refine Nv (ez _) (t:=t9) ?_ λx hx=>?_;·show (w.heap.push _)[w.heap.size]?=_;simp
     ·have h1:x.data.toList∈Lib.splitK c.data.toList 0 (Lib.countB s c) s.data.toList:=by rw[<-Ge];exact gR hx
      have h2:∀(k:Nat) (l:List UInt8),∀y∈Lib.splitK c.data.toList 0 k l,y.length<=l.length:=by
       intro k;induction k with
       |zero=>intro l y hy;simp[Lib.splitK] at hy;rw[hy];exact ez _
       |succ k ih=>
        intro l y hy;unfold Lib.splitK at hy;split at hy;·rw[ew.1 hy];exact ez _
        ·rcases bA.1 hy with rfl|hy;·simp;omega
         ·have:=ih _ _ hy;simp at this;omega
      have h3:=h2 _ _ _ h1;have h4:=hh.1;have e1:s.size=s.data.toList.length:=Lib.size_eq _;have e2:x.size=x.data.toList.length:=Lib.size_eq _;omega
   ·cases hg
  ·cases hg
def PN[B:Bs]{P:Program}{f0:FuncId}(hc:∀(s:ByteArray) (w:World),j9 w->s.size<=9223372036854775807->
  Calls P f0 #[.string s] w λe w'=>e=.returned (.tuple #[.int .i64 (((b9 s.data.toList).getD 0:Nat):Int),.bool (b9 s.data.toList).isSome])/\Below w.heap.size w w'):(eV f0 ya).Sound P:=
 uq λxs r hg w zl zb cs hx hA hs=>by
  unfold ya at hg;split at hg
  ·rename_i s;split at hg
   ·rename_i hh;cases hg;obtain rfl:=Qa hx;refine(hc s w hs hh).mono λe w' ⟨he,hw⟩=>?_;refine⟨vw [.int .i64 (((b9 s.data.toList).getD 0:Nat):Int),.bool (b9 s.data.toList).isSome],?_,?_,hw,FK λx hx=>?_⟩;·rw[he,Io];rfl
    ·rw[Im];cases b9 s.data.toList<;>rfl
    ·simp only[bA,List.not_mem_nil,or_false] at hx;rcases hx with rfl|rfl;·exact⟨Nu,trivial,λ_ _ h=>h⟩
     ·exact⟨FJ,trivial,λ_ _ h=>h⟩
   ·cases hg
  ·cases hg
def OR[B:Bs]{P:Program}{f0:FuncId}(htab:Lib.TabIs P B.W0 "internal/strconv.uint64pow10" .u64 Lib.pow10Tab) (hc:∀(n:Int),-9223372036854775808<=n->n<=9223372036854775807->∀w,Lib.TabIs P w "internal/strconv.uint64pow10" .u64 Lib.pow10Tab->
  Calls P f0 #[.int .i64 n] w λe w'=>e=.returned (.string ⟨(Lib.itoa n).toArray⟩)/\∃k os,w'=Sort.grow (w.drewN k) os):(jq f0 tY).Sound P:=
 ND λxs r h w hw=>by
  unfold tY at h;split at h
  ·rename_i n;split at h;·rename_i Gc;cases h;exact hc n Gc.1 Gc.2 w (TabIs.same htab hw)
   ·cases h
  ·cases h
end M
namespace Go.Proofs
open Go.RowKit
def RI{P:Program}{w w':World}{n:String}{k:IntKind}{zs:List Int}(h:Lib.TabIs P w n k zs)(hw:Below w.heap.size w w'):Lib.TabIs P w' n k zs:=by
 unfold Lib.TabIs World.var? at h⊢;cases hg:P.globalNamed n with
 |none=>rw[hg] at h;cases h
 |some g=>
  rw[hg] at h;simp only[jx] at h⊢
  have hlt:g<w.heap.size:=by
   rcases fA g w.heap.size with h'|h';·exact h'
   ·rw[ja h'] at h;cases h
  rw[hw.block g hlt];exact h
def Iy[B:M.Bs]{P:Program}{w:World}{n:String}{cs:Array Value}(h:B.W0.var? P n=some cs)(hw:M.j9 w):w.var? P n=some cs:=by
 unfold World.var? at h⊢;cases hg:P.globalNamed n with
 |none=>rw[hg] at h;cases h
 |some g=>
  rw[hg] at h;simp only[jx] at h⊢
  have hlt:g<B.W0.heap.size:=by
   rcases fA g B.W0.heap.size with h'|h';·exact h'
   ·rw[ja h'] at h;cases h
  rw[hw g hlt];exact h
def NF(w:World)(k:Nat)(os:Array Obj):Below w.heap.size w (Sort.grow (w.drewN k) os):=
 ⟨rfl,rfl,rfl,by simp[Sort.grow,World.drewN],λb hb=>by show (w.heap++os)[b]?=w.heap[b]?;exact Dz hb⟩
def kG(v:Int)(l:List UInt8):Bool:=decide (0<=v/\v<=1000000/\Lib.itoa v=l)
def qZ(v:Int)(l:List UInt8):Int:=if kG v l=true then v else 0
def PK{P:Program}{f a:FuncId}{s:ByteArray}{w:World}(hmax:s.size<=9223372036854775807)
  (Oi:7<s.size->Calls P f #[.string s] w λe w'=>e=.returned (.tuple #[.int .i64 0,.bool false])/\w'=w)
  (hok:¬7<s.size->∀v,Lib.atoiAll s.data.toList=.ok v->Calls P f #[.string s] w λe w'=>e=.returned (.tuple #[.int .i64 (qZ v s.data.toList),.bool (kG v s.data.toList)])/\Below w.heap.size w w')
  (NX:¬7<s.size->(∀v,Lib.atoiAll s.data.toList≠.ok v)->Calls P f #[.string s] w λe w'=>e=.returned (.tuple #[.int .i64 0,.bool false])/\Below w.heap.size w w'):
  Calls P f #[.string s] w λe w'=>e=.returned (.tuple #[.int .i64 (((M.b9 s.data.toList).getD 0:Nat):Int),.bool (M.b9 s.data.toList).isSome])/\Below w.heap.size w w':=by
 have hl:s.size=s.data.toList.length:=Lib.size_eq _;by_cases h:7<s.size;·rw[M.G0 _ (by omega)];exact(Oi h).mono λe w' ⟨he,hw⟩=>⟨he,hw▸Below.refl _ _⟩
 by_cases hv:∃v,Lib.atoiAll s.data.toList=.ok v
 ·obtain⟨v,hv⟩:=hv;rw[<-M.PO _ _ hv];refine(hok h v hv).mono λe w' ⟨he,hw⟩=>⟨?_,hw⟩;rw[he];by_cases hb:kG v s.data.toList=true;·have hb':=hb;unfold kG at hb';rw[aP] at hb';rw[qZ,aA hb,hb,aA hb'];simp;omega
  ·have hb':=hb;unfold kG at hb';rw[aP] at hb';rw[qZ,aC hb,aC hb'];simp[hb]
 ·have dw:∀v,Lib.atoiAll s.data.toList≠.ok v:=λv e=>hv ⟨v,e⟩;rw[M.PS _ dw];exact NX h dw
def Xs{H:Type}{enc:TypeId×Value->H}{a:Assume}{C:Checked}{os:Os}{f:FuncId}{fn:Func}{s:ChangeSpec}{conds:List PathCond}{apart fresh handsOn again:Bool}{X:World->Array Value->Prop}
  (hX:∀(w w':World) (args:Array Value),w.heap=w'.heap->X w args->X w' args)
  (own:ownKnob C.prog.godebug=none)(started:os.Started)(noInit:C.prog.inits.idxOf? f=none)(hfn:C.prog.funcs[f]?=some fn)
  (witness:∃(w:World) (tape:Tape) (i:Input),w.os=os/\(w.forCall tape i).Shaped C.prog/\i.vars=[]/\Input.okWide C.prog (w.forCall tape i) .any w.heap.size f i/\
   ((s.pre enc C.prog fn conds apart (w.forCall tape i).memory i.args/\X (w.forCall tape i).memory i.args)/\sizedMet enc C.prog fn (OpenSpec.ofChange s) apart (w.forCall tape i).memory i.args)/\a.holds C.prog (lone (Frame.enter C.prog f i.args .normal) [] (w.forCall tape i)))
  (contract:∀(W:World) (base:Nat) (args:Array Value) (ds gs:List (DataW H)) (before:List MemPlace),
   (∀(j:Nat) t v,fn.params[j]?=some t->args[j]?=some v->Value.okWide C.prog W .any base t v)->
   DataW.Whole enc C.prog fn.params.toList s.vars apart W args.toList ds gs before->
   conds.all (PathCond.test C.prog ⟨fn.params.toList,ds,s.plain.varTypes C.prog,gs⟩)=true->
   (DataW.weightsEach C.prog (fn.params.toList++s.plain.varTypes C.prog) (ds++gs)).all (· <=reachBytes)=true->X W args->
   W.ShapedOpen C.prog->
   a.holds C.prog (lone (Frame.enter C.prog f args .normal) [] W)->
   Calls C.prog f args W λe W'=>∃v,e=.returned v/\s.post enc C.prog fn apart fresh handsOn again W args v W'):
  ReturnsInHanded a C os f .any (λw args=>(s.pre enc C.prog fn conds apart w args/\X w args)/\sizedMet enc C.prog fn (OpenSpec.ofChange s) apart w args) (s.post enc C.prog fn apart fresh handsOn again):=by refine returnsInHanded_of_calls own started noInit witness ?_;intro w tape i _ hsh _ hok hpre hholds;obtain⟨_,_,_,fn',N9,_,_,_,_,hval⟩:=hok;have e:fn'=fn:=e8 (N9.symm.trans hfn);subst e;obtain⟨⟨⟨ds,gs,before,hw,hc⟩,hx⟩,hz⟩:=hpre;have hw':=DataW.Whole.of_heap (w':=w.forCall tape i) (by rfl) hw;refine(contract (w.forCall tape i) w.heap.size i.args ds gs before hval hw' hc (hz.weights hw) (hX _ _ _ (by rfl) hx) hsh hholds).mono λe W' ⟨v,he,hp⟩=>?_;subst he;exact ChangeSpec.post_blind hp
end Go.Proofs
namespace M
open Go Go.RowKit
def TE(s c:ai):(Lib.trimPrefix s c).length<=s.length:=by
 unfold Lib.trimPrefix;split;·simp
 ·exact ez _
def Lm[B:Bs]{P:Program}{f0:FuncId}(hc:∀(s p:ByteArray) (w:World),
  Calls P f0 #[.string s,.string p] w λe w'=>e=.returned (.tuple #[.string ⟨(Lib.trimPrefix s.data.toList p.data.toList).toArray⟩,.bool (Lib.hasPrefix s.data.toList p.data.toList)])/\w'=w):(eV f0 wA).Sound P:=
 uq λxs r hg w zl zb cs hx hA hs=>by
  unfold wA at hg;split at hg
  ·rename_i s c;split at hg
   ·rename_i hh;cases hg;obtain rfl:=C7 hx;have hl:=TE s.data.toList c.data.toList;refine(hc s c w).mono λe w' ⟨he,hw⟩=>?_;subst hw;refine⟨vw [.str ⟨(Lib.trimPrefix s.data.toList c.data.toList).toArray⟩,.bool (Lib.hasPrefix s.data.toList c.data.toList)],?_,?_,Below.refl _ _,FK λx hx=>?_⟩;·rw[he,Io];rfl
    ·rw[Im];rfl
    ·have e1:s.size=s.data.toList.length:=Lib.size_eq _;simp only[bA,List.not_mem_nil,or_false] at hx;rcases hx with rfl|rfl;·exact⟨A9 (by simp only[ByteArray.size,pQ];omega),trivial,λ_ _ h=>h⟩
     ·exact⟨FJ,trivial,λ_ _ h=>h⟩
   ·cases hg
  ·cases hg
end M
namespace M
open Go Go.RowKit
end M
namespace M
open Go Go.RowKit
def fW(l:List (ByteArray×ByteArray)):List UInt8:=l.flatMap λf=>f.1.data.toList++[58,32]++f.2.data.toList++[13,10]
def FN{l:List (ByteArray×ByteArray)}{k:Nat}(h:k<l.length):fW (l.take (k+1))=fW (l.take k)++(l[k].1.data.toList++[58,32]++l[k].2.data.toList++[13,10]):=by unfold fW;rw[r8 h,DA];simp only[gO,DB,nW]
def Ny{l:List (ByteArray×ByteArray)}{k:Nat}(h:k<l.length):(fW (l.take k)).length+l[k].1.size+2+l[k].2.size+2<=(fW l).length:=by
 have e:fW l=fW (l.take (k+1))++fW (l.drop (k+1)):=by unfold fW;rw[<-DA,I1]
 rw[e,FN h];simp only[fT,cw,iA];have h1:l[k].1.data.toList.length=l[k].1.size:=by rw[vK];rfl
 have h2:l[k].2.data.toList.length=l[k].2.size:=by rw[vK];rfl
 omega
def wQ(f:ax):ByteArray×ByteArray:=(⟨f.name.toArray⟩,⟨f.value.toArray⟩)
def FM(l:List ax):fW (l.map wQ)=ff l:=by unfold fW ff;rw[List.flatMap_map];rfl
def LJ:∀{rows:List (List X)} {l:List ax},mR rows=some l->rows=l.map aE:=by
 intro rows;induction rows with
 |nil=>intro l h;simp[mR] at h;subst h;rfl
 |cons r rows ih=>
  intro l h;match r,h with
  |[.str a,.str b],h=>
   simp only[mR] at h;cases hs:mR rows with
   |none=>rw[hs] at h;simp at h
   |some l'=>rw[hs] at h;simp at h;subst h;rw[ih hs];simp
def LC[B:Bs]{P:Program}{f0:FuncId}
  (hc:∀(A:Option Addr) (cap:Nat) (fs:List (ByteArray×ByteArray)) (w:World),
   (∀i f,fs[i]?=some f->∃g o,A=some ⟨g,o,none⟩/\g<w.heap.size/\w.cell? ⟨g,o+i*2,none⟩=some (.string f.1)/\w.cell? ⟨g,o+i*2+1,none⟩=some (.string f.2))->
   (fW fs).length<=140737488355328->fs.length<=140737488355328->
   Calls P f0 #[.slice A fs.length cap] w λe w'=>e=.returned (.string ⟨(fW fs).toArray⟩)/\Below w.heap.size w w'):(eV f0 wM).Sound P:=
 uq λxs r hg w zl zb cs hx hA hs=>by
  unfold wM at hg;split at hg
  ·rename_i rows;split at hg
   ·rename_i l hl;split at hg
    ·rename_i hh;cases hg;obtain⟨c1,r1,rfl,h1,h2⟩:=map_cons hx;obtain rfl:=map_nil h2;obtain⟨A,len,cap,e,rfl,hlen,hrow⟩:=Lu h1;have hrows:=LJ hl;have oA:len=l.length:=by rw[hlen,hrows];simp
     have ok:=hA.ok _ (bE ..);obtain⟨k1,k2,k3,k4,k5⟩:=ok
     have hcell:∀i f,(l.map wQ)[i]?=some f->∃g o,(A.map λq=>(⟨q.1,q.2.1,q.2.2⟩:Addr))=some ⟨g,o,none⟩/\g<w.heap.size/\w.cell? ⟨g,o+i*2,none⟩=some (.string f.1)/\w.cell? ⟨g,o+i*2+1,none⟩=some (.string f.2):=by
      intro i f hi;have hi2:i<l.length:=by have:=br.1 hi;simpa using this.1
      obtain⟨g,o,iI,h0,_⟩:=k2 i 0 (by omega) (by omega);obtain⟨g',o',F2,h0',_⟩:=k2 i 1 (by omega) (by omega);rw[iI] at F2;cases F2;have hr:=hrow i (by omega);rw[hrows,cg,bH hi2] at hr;rw[cg,bH hi2] at hi;simp[List.range_succ,wQ] at hr hi;obtain⟨r1,r2⟩:=hr;have q1:=s8 r1.symm;have q2:=s8 r2.symm;rw[q1] at h0;rw[q2] at h0';subst hi;refine⟨g,o,by rw[iI];rfl,?_,by simpa [C.val] using h0,by simpa [C.val] using h0'⟩;rcases fA g w.heap.size with h|h;·exact h
      ·simp[World.cell?,ja h] at h0
     have key:=hc (A.map λq=>(⟨q.1,q.2.1,q.2.2⟩:Addr)) cap (l.map wQ) w hcell (by rw[FM];exact hh.1) (by simpa using hh.2);rw[FM,cM,<-oA] at key;refine Calls.mono key λe w' ⟨he,hb⟩=>?_;exact⟨.str ⟨(ff l).toArray⟩,he,rfl,hb,A9 (by have:=hh.1;simp only[ByteArray.size,pQ];omega)⟩
    ·cases hg
   ·cases hg
  ·cases hg
end M
namespace M
open Go
end M
namespace M
open Go
def crlf:ai:=[13,10]
def dc:ai:=[13,10,13,10]
def lines:List ai->ai
 |[]=>[]
 |[l]=>l
 |l::k::ls=>l++(crlf++lines (k::ls))
def uy:ai:=[72,84,84,80,47,49,46,49]
def qu(f:ax):ai:=f.name++([58,32]++f.value)
def wU(fs:List ax):ai:=fs.flatMap λf=>qu f++crlf
def BZ(b:ai):ai:=ij++([58,32]++bN b.length)
def yh(r:bh):ai:=uy++32::(bN r.status.toNat++[32,46])
def HF(r:bh):List ai:=yh r::(r.fields.map qu++[BZ r.body])
def yg(r:bh):ai:=lines (HF r)++(dc++r.body)
def lS(r:bh):ai:=if cI r=true then yg r else []
def Nw(fs:List ax):ff fs=wU fs:=by unfold ff wU;congr 1;funext f;simp[mP,qu,crlf]
def O5(fs:List ax)(l z:ai):lines (l::(fs.map qu++[z]))=l++(crlf++(wU fs++z)):=by
 induction fs generalizing l with
 |nil=>rfl
 |cons f fs ih=>show l++(crlf++lines (qu f::(fs.map qu++[z])))=_;rw[ih];simp[wU]
def HE(r:bh):yg r=yh r++(crlf++(ff r.fields++(BZ r.body++(dc++r.body)))):=by unfold yg HF;rw[O5,Nw];simp
def LF{fs:List ax}(h:ef fs=true){f:ax}(hf:f∈fs):eY f.name=true/\eZ f.value=true/\f.name≠ij:=by unfold ef at h;simp only[au] at h;obtain⟨i,hi,rfl⟩:=zR hf;have:=iB.1 h.1 (fs[i],i) (me (i:=i) (by simp[hi]));unfold fh at this;simp only[au,pT,Dt] at this;exact⟨this.1.1.1,this.1.1.2,this.2⟩
def LD{fs:List ax}(h:ef fs=true):fs.length<=8:=by unfold ef at h;simp only[au,aP] at h;omega
end M
namespace M
open Go
def colon:ai:=[58,32]
def Rb{r:bh}(h:cI r=true):(100<=r.status/\r.status<=599)/\ef r.fields=true/\r.body.length<=120:=by unfold cI at h;simp only[au,aP] at h;exact⟨h.1.1,h.1.2,by omega⟩
def Ri(r:bh):yg r≠[]:=by rw[HE];simp[yh,uy]
def Hz(r:bh):lS r=[]↔¬cI r=true:=by unfold lS;have:=Ri r;split<;>simp_all
structure JT (o:Ob):Prop where
 resp:cI o.resp=true
 path:iR o.path=true
 t0:0<=o.t
 t1:o.t<=1000000
 names:kE o.names=true
 XY:o.names=dm o.resp.fields
 len:o.values.length=o.names.length
 n4:o.names.length<=4
 vals:∀v∈o.values,eZ v=true
def PX{o:Ob}(h:gm o=true):JT o:=by
 unfold gm at h;simp only[au,aP] at h;have hn:o.names.length<=4:=by have:=h.1.1.1.2;unfold kE at this;simp only[au,aP] at this;omega
 obtain⟨⟨⟨⟨⟨⟨h1,h2⟩,h3,h4⟩,h5⟩,h6⟩,h7⟩,h8⟩:=h;exact⟨h1,h2,h3,h4,h5,h6,by omega,hn,λv hv=>iB.1 h8 v hv⟩
end M
namespace M
open Go
end M
namespace M
open Go
def TR{α:Type}(w:α->Nat)(l:List α)(n:Nat):wL w (l.take n)<=wL w l:=by have h:l=l.take n++l.drop n:=(I1 n l).symm;have h1:=cK List.length h;have h2:=cK (λl=>(l.map w).sum) h;simp only[fT] at h1;simp only[jb,Dn] at h2;unfold wL;omega
end M
namespace M
open Go
end M
namespace M
open Go
end M
namespace M
open Go
structure zW (S:Int) (l:List Kp):Prop where
 k:∀x∈l,gm x.obj=true/\(5<=x.at_/\x.at_<=19)/\1<=x.seq/\x.seq<S
 p:l.Pairwise λx y=>x.at_≠y.at_/\x.seq<y.seq
end M
namespace M
open Go
end M
namespace Go.Proofs
structure mo where
 p:ByteArray
 a1:Option Addr
 l1:Nat
 c1:Nat
 a2:Option Addr
 l2:Nat
 c2:Nat
 s:Int
 a3:Option Addr
 l3:Nat
 c3:Nat
 b:ByteArray
 t:Int
 k:Int
 q:Int
def mo.v(e:mo):Nat->Value
 |0=>.string e.p
 |1=>.slice e.a1 e.l1 e.c1
 |2=>.slice e.a2 e.l2 e.c2
 |3=>.int .i64 e.s
 |4=>.slice e.a3 e.l3 e.c3
 |5=>.string e.b
 |6=>.int .i64 e.t
 |7=>.int .i64 e.k
 |_=>.int .i64 e.q
def mo.ob(e:mo):Array Value:= #[.string e.p,.slice e.a1 e.l1 e.c1,.slice e.a2 e.l2 e.c2,.int .i64 e.s,.slice e.a3 e.l3 e.c3,.string e.b,.int .i64 e.t]
def mo.kp(e:mo):Array Value:= #[.string e.p,.slice e.a1 e.l1 e.c1,.slice e.a2 e.l2 e.c2,.int .i64 e.s,.slice e.a3 e.l3 e.c3,.string e.b,.int .i64 e.t,.int .i64 e.k,.int .i64 e.q]
def mo.z:mo:=⟨⟨#[]⟩,none,0,0,none,0,0,0,none,0,0,⟨#[]⟩,0,0,0⟩
end Go.Proofs
namespace M
open Go Go.RowKit Go.Proofs
end M
