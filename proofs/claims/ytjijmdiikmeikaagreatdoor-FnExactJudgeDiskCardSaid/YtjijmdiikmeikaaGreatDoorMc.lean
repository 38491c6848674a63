/- A machine of values for loaded Go functions, sound for the calculus of calls; part 3; no conditions. -/
import Derived.Test.YtjijmdiikmeikaaGreatDoorMb
import Derived.Sort.Grow
import Derived.Deep.Draws
import Derived.Lib.LaidTab
import Derived.MakeChecks
import Derived.Laws.BitsLemmas
import Derived.ChangeArms
import Derived.ChangeReads
import Derived.ChangeOld
import Derived.ChangeShapes
import Derived.SizedLaws
import Derived.RowKit
import Derived.Below
import Derived.Lib.ItoaNum
import Derived.Lib.TrimByte
import Derived.Lib.AtoiAllCases
import Derived.Lib.SplitLaws
import Derived.Lib.Join
import Derived.Lib.IndexMore
import Derived.HandedShaped
import Derived.Lib.Strings
import Derived.Lib.Slices
import Derived.Lib.Walk
import Derived.Stop.LaidErr
set_option linter.defProp false
set_option linter.unusedSectionVars false
set_option linter.unusedVariables false
set_option linter.unusedSimpArgs false
namespace M
open Go
section
variable {C C':cx}{ok:FuncId->Bool}
def agX{C:cx}{d:Option Nat}{s s':ah}{f:FuncId}{xs:List X}(h:pW d s (C f xs)=some s'):∃o,C f xs=some o/\∀C':cx,C' f xs=some o->pW d s (C' f xs)=some s':=by
 cases ho:C f xs with
 |none=>rw[ho] at h;cases h
 |some o=>rw[ho] at h;exact⟨o,rfl,λC' h'=>by rw[h'];exact h⟩
def agW{C:cx}{d:Option Nat}{as:List (AV×PM)}{back:yp}{s':ah}{f:FuncId}{xs:List X}(h:Bl d as back (C f xs)=some s'):∃o,C f xs=some o/\∀C':cx,C' f xs=some o->Bl d as back (C' f xs)=some s':=by
 cases ho:C f xs with
 |none=>rw[ho] at h;cases h
 |some o=>rw[ho] at h;exact⟨o,rfl,λC' h'=>by rw[h'];exact h⟩
def OA{f:FuncId}{d:Option Nat}{as:List (AV×PM)}{fv:Option AV}{s s':ah}(h:qE C f d as fv s=some s'):
  ∃xs o,C f xs=some o/\∀C':cx,C' f xs=some o->qE C' f d as fv s=some s':=by
 unfold qE at h⊢;by_cases hb:X.bare.js (bU as s).1=true
 ·simp only[ay hb] at h⊢;cases hm:dR as with
  |none=>
   simp only[hm] at h⊢;by_cases hc:vq (bU as s).2 fv f=true;·simp only[ay hc] at h⊢;obtain⟨o,h1,h2⟩:=agX h;exact⟨_,o,h1,h2⟩
   ·simp only[aD hc] at h;cases h
  |some xn=>
   obtain⟨x,n⟩:=xn;simp only[hm] at h⊢;unfold C7 at h⊢;split at h
   ·split at h;·rename_i y back h1 h2;simp only[h1,ay h2];obtain⟨o,h1,h2⟩:=agW h;exact⟨_,o,h1,h2⟩
    ·cases h
   ·cases h
 ·simp only[aD hb] at h;cases h
def Pa{o:cq}{s s':ah}(h:cI C ok o s=some s'):(∀C':cx,cI C' ok o s=some s')\/∃f xs r,C f xs=some r/\∀C':cx,C' f xs=some r->cI C' ok o s=some s':=by
 cases o with
 |call d f as=>obtain⟨xs,o,h1,h2⟩:=OA (C:=C) h;exact .inr ⟨f,xs,o,h1,h2⟩
 |kf d x as=>
  simp only[cI] at h⊢;split at h
  ·rename_i f caps hf;split at h;·rename_i hok;obtain⟨xs,o,h1,h2⟩:=OA (C:=C) h;refine .inr ⟨f,xs,o,h1,λC' h'=>?_⟩;simp only[ay hok];exact h2 C' h'
   ·cases h
  ·cases h
 |qC d f x as=>
  simp only[cI] at h⊢;split at h
  ·rename_i cs h1;split at h
   ·rename_i h2;simp only[ay h2];refine .inr ?_;cases ho:C f (.agg (bV cs s).1::gp (bV cs s).2 .dead as (as.map λ_=>.dead)) with
    |none=>rw[ho] at h;cases h
    |some r=>rw[ho] at h;exact⟨f,_,r,ho,λC' h'=>by rw[h'];exact h⟩
   ·cases h
  ·cases h
 |_=>exact .inl λ_=>h
def O6{g:G}{s s':ah}(h:eG C ok g s=some s'):(∀C':cx,eG C' ok g s=some s')\/∃f xs r,C f xs=some r/\∀C':cx,C' f xs=some r->eG C' ok g s=some s':=by
 obtain⟨gg,o⟩:=g;cases gg with
 |none=>exact Pa h
 |some tb=>
  obtain⟨t,b⟩:=tb;simp only[eG] at h⊢;split at h
  ·rename_i v hv;split at h;·rename_i h1;simp only[hv,ay h1];exact Pa h
   ·rename_i h1;simp only[hv,aD h1];exact .inl λ_=>h
  ·exact .inl λ_=>h
  ·cases h
def cx.le(C C':cx):Prop:=∀f xs o,C f xs=some o->C' f xs=some o
def O8(hl:C.le C'){g:G}{s s':ah}(h:eG C ok g s=some s'):eG C' ok g s=some s':=by
 rcases O6 h with h|⟨f,xs,r,h1,h2⟩;·exact h _
 ·exact h2 _ (hl _ _ _ h1)
def I9(hl:C.le C'):∀{l:List G} {s s':ah},jR C ok l s=some s'->jR C' ok l s=some s'
 |[],_,_,h=>h
 |g::l,s,s',h=>by
  simp only[jR] at h⊢;cases h1:eG C ok g s with
  |none=>rw[h1] at h;cases h
  |some s1=>rw[h1] at h;rw[O8 hl h1];exact I9 hl h
def vB(hl:C.le C'):∀{t:DT} {s s':ah},eD C ok t s=some s'->eD C' ok t s=some s'
 |.nil _,_,_,h=>h
 |.step _ g l,s,s',h=>by
  simp only[eD] at h⊢;cases h1:eG C ok g s with
  |none=>rw[h1] at h;cases h
  |some s1=>rw[h1] at h;rw[O8 hl h1];exact vB hl h
 |.alt a b,s,s',h=>by
  simp only[eD] at h⊢;unfold same at h;split at h;·rename_i x y hx hy;rw[vB hl hx,vB hl hy];exact h
  ·cases h
 |.kp _ t,s,s',h=>vB (t:=t) hl h
def GW{k k':ah->cB}{r r':cB}{o:Ex×ah}(h:fq k r=some o)(hr:∀x,r=some x->r'=some x)(hk:∀s,k s=some o->k' s=some o):fq k' r'=some o:=by
 unfold fq at h;split at h;·rw[hr _ rfl];exact hk _ h
 ·rw[hr _ rfl];exact h
 ·rw[hr _ rfl];exact h
 ·cases h
def wk{f f':ah->cB}(hf:∀s o,f s=some o->f' s=some o):∀{n m:Nat} {s:ah} {o:Ex×ah},n<=m->iter f n s=some o->iter f' m s=some o
 |0,_,_,_,_,h=>by cases h
 |n+1,0,_,_,hn,_=>by omega
 |n+1,m+1,s,o,hn,h=>GW h (hf s) λs' h'=>wk hf (by omega) h'
end
noncomputable def aG(f:ah->cB)(s:ah):cB:=by classical exact if h:∃o:Ex×ah,∃n,iter f n s=some o then some (Classical.choose h) else none
def AU{f:ah->cB}{s:ah}{o:Ex×ah}{n:Nat}(h:iter f n s=some o):aG f s=some o:=by have hh:∃o:Ex×ah,∃n,iter f n s=some o:=⟨o,n,h⟩;unfold aG;rw[nN hh];obtain⟨m,hm⟩:=CI hh;have h1:=wk (λ_ _ h=>h) (Nat.le_max_left m n) hm;have h2:=wk (λ_ _ h=>h) (Nat.le_max_right m n) h;rw[h1] at h2;exact h2
def KY{f:ah->cB}{s:ah}{o:Ex×ah}(h:aG f s=some o):∃n,iter f n s=some o:=by
 unfold aG at h;split at h;·rename_i hh;cases h;exact CI hh
 ·cases h
def La{α:Type}{a b:Option α}(h1:∀x,a=some x->b=some x)(h2:∀x,b=some x->a=some x):a=b:=by
 cases a with
 |none=>cases b with
  |none=>rfl
  |some y=>exact h2 y rfl
 |some x=>exact(h1 x rfl).symm
def dY(f:ah->cB)(s:ah):aG f s=fq (aG f) (f s):=by
 refine La (λo h=>?_) λo h=>?_
 ·obtain⟨n,hn⟩:=KY h;cases n with
  |zero=>cases hn
  |succ n=>exact GW hn (λ_ h=>h) λs' h'=>AU h'
 ·unfold fq at h;split at h;·rename_i s' hs;obtain⟨n,hn⟩:=KY h;refine AU (n:=n+1) ?_;simp only[iter,hs,fq];exact hn
  ·rename_i hs;refine AU (n:=1) ?_;simp only[iter,hs,fq];exact h
  ·rename_i hs;refine AU (n:=1) ?_;simp only[iter,hs,fq];exact h
  ·cases h
noncomputable def ai(C:cx)(ok:FuncId->Bool):A->ah->cB
 |.skip,s=>some (.normal,s)
 |.ret,s=>some (.ret,s)
 |.exit id,s=>some (.exit id,s)
 |.ops l,s=>iM (jR C ok l s)
 |.draw t,s=>iM (eD C ok t s)
 |.seq a b,s=>fq (ai C ok b) (ai C ok a s)
 |.cond c a b,s=>match ax s c with
  |.bool t=>if t=true then ai C ok a s else ai C ok b s
  |_=>none
 |.block id b,s=>kP id (ai C ok b s)
 |.loop b,s=>aG (ai C ok b) s
 |.pk ks b,s=>lg ks (ai C ok b s)
def FO{a b:Option ah}(h:∀s,a=some s->b=some s){o:Ex×ah}(ho:iM a=some o):iM b=some o:=by
 unfold iM at ho;split at ho;·rw[h _ rfl];exact ho
 ·cases ho
def NS{id:Nat}{a b:cB}(h:∀s,a=some s->b=some s){o:Ex×ah}(ho:kP id a=some o):kP id b=some o:=by
 cases a with
 |none=>cases ho
 |some x=>rw[h _ rfl];exact ho
def R4{ks:List Nat}{a b:cB}(h:∀s,a=some s->b=some s){o:Ex×ah}(ho:lg ks a=some o):lg ks b=some o:=by
 cases a with
 |none=>cases ho
 |some x=>rw[h _ rfl];exact ho
def Zs{C C':cx}{ok:FuncId->Bool}(hl:C.le C'){N:Nat}:∀{t:A} {s:ah} {o:Ex×ah},eA C ok N t s=some o->ai C' ok t s=some o:=by
 intro t;induction t with
 |skip=>intro s o h;exact h
 |ret=>intro s o h;exact h
 |exit id=>intro s o h;exact h
 |ops l=>intro s o h;exact FO (λs' h'=>I9 hl h') h
 |draw l=>intro s o h;exact FO (λs' h'=>vB hl h') h
 |seq a b iL jV=>intro s o h;exact GW h (λx hx=>iL hx) λs' h'=>jV h'
 |cond c a b iL jV=>
  intro s o h;simp only[eA] at h;simp only[ai];split at h
  ·rename_i t ht;try rw[ht]
   cases t with
   |true=>exact iL h
   |false=>exact jV h
  ·cases h
 |block id b ih=>intro s o h;exact NS (λx hx=>ih hx) h
 |loop b ih=>intro s o h;exact AU (wk (λs o h=>ih h) (e7 _) h)
 |pk ks b ih=>intro s o h;exact R4 (λx hx=>ih hx) h
def Zt{C C':cx}{ok:FuncId->Bool}(hl:C.le C'){N N':Nat}(hN:N<=N'):∀{t:A} {s:ah} {o:Ex×ah},eA C ok N t s=some o->eA C' ok N' t s=some o:=by
 intro t;induction t with
 |skip=>intro s o h;exact h
 |ret=>intro s o h;exact h
 |exit id=>intro s o h;exact h
 |ops l=>intro s o h;exact FO (λs' h'=>I9 hl h') h
 |draw l=>intro s o h;exact FO (λs' h'=>vB hl h') h
 |seq a b iL jV=>intro s o h;exact GW h (λx hx=>iL hx) λs' h'=>jV h'
 |cond c a b iL jV=>
  intro s o h;simp only[eA] at h⊢;split at h
  ·rename_i t ht;cases t with
   |true=>exact iL h
   |false=>exact jV h
  ·cases h
 |block id b ih=>intro s o h;exact NS (λx hx=>ih hx) h
 |loop b ih=>intro s o h;exact wk (λs o h=>ih h) hN h
 |pk ks b ih=>intro s o h;exact R4 (λx hx=>ih hx) h
def Ds{L:cx}{T:iE}:∀{n m:Nat},n<=m->(exec L T n).le (exec L T m)
 |0,_,_,_,_,_,h=>by cases h
 |n+1,0,hn,_,_,_,_=>by omega
 |n+1,m+1,hn,f,xs,o,h=>by
  have hnm:n<=m:=by omega
  simp only[exec] at h⊢;split at h
  ·rename_i F hF;unfold eF at h⊢;split at h
   ·rename_i hl;rw[ay hl];cases hr:eA (exec L T n) (aj T) n F.body (mI xs) with
    |none=>rw[hr] at h;cases h
    |some r=>rw[hr] at h;rw[Zt (Ds hnm) hnm hr];exact h
   ·cases h
  ·exact h
noncomputable def ev(L:cx)(T:iE):cx:=λf xs=>by classical exact if h:∃o:Out,∃n,exec L T n f xs=some o then some (Classical.choose h) else none
def Jb{L:cx}{T:iE}{f:FuncId}{xs:List X}{o:Out}{n:Nat}(h:exec L T n f xs=some o):ev L T f xs=some o:=by have hh:∃o:Out,∃n,exec L T n f xs=some o:=⟨o,n,h⟩;unfold ev;rw[nN hh];obtain⟨m,hm⟩:=CI hh;have h1:=Ds (Nat.le_max_left m n) f xs _ hm;have h2:=Ds (Nat.le_max_right m n) f xs _ h;rw[h1] at h2;exact h2
def Dq{L:cx}{T:iE}{f:FuncId}{xs:List X}{o:Out}(h:ev L T f xs=some o):∃n,exec L T n f xs=some o:=by
 unfold ev at h;split at h;·rename_i hh;cases h;exact CI hh
 ·cases h
def ZA(L:cx)(T:iE)(n:Nat):(exec L T n).le (ev L T):=λ_ _ _ h=>Jb h
def anC[Bs]{P:Program}{L:cx}{T:iE}(hL:L.Sound P)(hT:T.Ok P):(ev L T).Sound P:=λf xs o h=>by obtain⟨n,hn⟩:=Dq h;exact Pk hL hT n f xs o hn
section
variable {L:cx}{T:iE}
def O7{g:G}{s s':ah}(h:eG (ev L T) (aj T) g s=some s'):∃n,∀m,n<=m->eG (exec L T m) (aj T) g s=some s':=by
 rcases O6 h with h|⟨f,xs,r,h1,h2⟩;·exact⟨0,λm _=>h _⟩
 ·obtain⟨n,hn⟩:=Dq h1;exact⟨n,λm hm=>h2 _ (Ds hm f xs r hn)⟩
def Pc:∀{l:List G} {s s':ah},jR (ev L T) (aj T) l s=some s'->∃n,∀m,n<=m->jR (exec L T m) (aj T) l s=some s'
 |[],s,s',h=>⟨0,λm _=>h⟩
 |g::l,s,s',h=>by
  simp only[jR] at h⊢;cases h1:eG (ev L T) (aj T) g s with
  |none=>rw[h1] at h;cases h
  |some s1=>rw[h1] at h;obtain⟨n1,jg⟩:=O7 h1;obtain⟨n2,hn2⟩:=Pc (l:=l) h;exact⟨max n1 n2,λm hm=>by rw[jg m (by omega)];exact hn2 m (by omega)⟩
def yO:∀{l:DT} {s s':ah},eD (ev L T) (aj T) l s=some s'->∃n,∀m,n<=m->eD (exec L T m) (aj T) l s=some s'
 |.nil _,s,s',h=>⟨0,λm _=>h⟩
 |.step _ g l,s,s',h=>by
  simp only[eD] at h⊢;cases h1:eG (ev L T) (aj T) g s with
  |none=>rw[h1] at h;cases h
  |some s1=>rw[h1] at h;obtain⟨n1,jg⟩:=O7 h1;obtain⟨n2,hn2⟩:=yO (l:=l) h;exact⟨max n1 n2,λm hm=>by rw[jg m (by omega)];exact hn2 m (by omega)⟩
 |.alt a b,s,s',h=>by
  simp only[eD] at h⊢;unfold same at h;split at h;·rename_i x y hx hy;obtain⟨n1,jg⟩:=yO hx;obtain⟨n2,hn2⟩:=yO hy;exact⟨max n1 n2,λm hm=>by rw[jg m (by omega),hn2 m (by omega)];exact h⟩
  ·cases h
 |.kp _ t,s,s',h=>yO (l:=t) h
def Rz{a:Option ah}{b:Nat->Option ah}(h:∀s,a=some s->∃n,∀m,n<=m->b m=some s){o:Ex×ah}(ho:iM a=some o):∃n,∀m,n<=m->iM (b m)=some o:=by
 cases a with
 |none=>cases ho
 |some s=>obtain⟨n,hn⟩:=h s rfl;exact⟨n,λm hm=>by rw[hn m hm];exact ho⟩
def Zy:∀{t:A} {s:ah} {o:Ex×ah},ai (ev L T) (aj T) t s=some o->∃n,∀m,n<=m->eA (exec L T m) (aj T) m t s=some o:=by
 intro t;induction t with
 |skip=>intro s o h;exact⟨0,λm _=>h⟩
 |ret=>intro s o h;exact⟨0,λm _=>h⟩
 |exit id=>intro s o h;exact⟨0,λm _=>h⟩
 |ops l=>intro s o h;exact Rz (λs h=>Pc h) h
 |draw l=>intro s o h;exact Rz (λs h=>yO h) h
 |seq a b iL jV=>
  intro s o h;simp only[ai] at h;simp only[eA];cases hr:ai (ev L T) (aj T) a s with
  |none=>rw[hr] at h;cases h
  |some r=>
   rw[hr] at h;obtain⟨n1,jg⟩:=iL hr;obtain⟨e,s1⟩:=r;cases e with
   |normal=>obtain⟨n2,hn2⟩:=jV (s:=s1) h;exact⟨max n1 n2,λm hm=>by rw[jg m (by omega)];exact hn2 m (by omega)⟩
   |exit i=>exact⟨n1,λm hm=>by rw[jg m hm];exact h⟩
   |ret=>exact⟨n1,λm hm=>by rw[jg m hm];exact h⟩
 |cond c a b iL jV=>
  intro s o h;simp only[ai] at h;simp only[eA];split at h
  ·rename_i t ht;try rw[ht]
   cases t with
   |true=>exact iL h
   |false=>exact jV h
  ·cases h
 |block id b ih=>
  intro s o h;simp only[ai] at h;simp only[eA];cases hr:ai (ev L T) (aj T) b s with
  |none=>rw[hr] at h;cases h
  |some r=>rw[hr] at h;obtain⟨n1,jg⟩:=ih hr;exact⟨n1,λm hm=>by rw[jg m hm];exact h⟩
 |pk ks b ih=>
  intro s o h;simp only[ai] at h;simp only[eA];cases hr:ai (ev L T) (aj T) b s with
  |none=>rw[hr] at h;cases h
  |some r=>rw[hr] at h;obtain⟨n1,jg⟩:=ih hr;exact⟨n1,λm hm=>by rw[jg m hm];exact h⟩
 |loop b ih=>
  intro s o h;simp only[ai] at h;obtain⟨n,hn⟩:=KY h
  have go:∀(n:Nat) (s:ah),iter (ai (ev L T) (aj T) b) n s=some o->∃k,∀m,k<=m->iter (eA (exec L T m) (aj T) m b) n s=some o:=by
   intro n;induction n with
   |zero=>intro s h;cases h
   |succ n ihn=>
    intro s h;simp only[iter] at h⊢;cases hr:ai (ev L T) (aj T) b s with
    |none=>rw[hr] at h;cases h
    |some r=>
     rw[hr] at h;obtain⟨n1,jg⟩:=ih hr;obtain⟨e,s1⟩:=r;cases e with
     |normal=>obtain⟨n2,hn2⟩:=ihn s1 h;exact⟨max n1 n2,λm hm=>by rw[jg m (by omega)];exact hn2 m (by omega)⟩
     |exit i=>exact⟨n1,λm hm=>by rw[jg m hm];exact h⟩
     |ret=>exact⟨n1,λm hm=>by rw[jg m hm];exact h⟩
  obtain⟨k,hk⟩:=go n s hn;refine⟨max k n,λm hm=>?_⟩;simp only[eA];exact wk (λ_ _ h=>h) (by omega) (hk m (by omega))
noncomputable def Dp(L:cx)(T:iE)(F:Fn)(xs:List X):Option Out:=
 if xs.length=F.n then fin F (ai (ev L T) (aj T) F.body (mI xs)) else none
def Zz{f:FuncId}{F:Fn}(hF:T f=some F)(xs:List X):ev L T f xs=Dp L T F xs:=by
 refine La (λo h=>?_) λo h=>?_
 ·obtain⟨n,hn⟩:=Dq h;cases n with
  |zero=>cases hn
  |succ n=>
   simp only[exec,hF] at hn;unfold eF at hn;unfold Dp;split at hn
   ·rename_i hl;rw[ay hl];cases hr:eA (exec L T n) (aj T) n F.body (mI xs) with
    |none=>rw[hr] at hn;cases hn
    |some r=>rw[hr] at hn;rw[Zs (ZA L T n) hr];exact hn
   ·cases hn
 ·unfold Dp at h;split at h
  ·rename_i hl;cases hr:ai (ev L T) (aj T) F.body (mI xs) with
   |none=>rw[hr] at h;cases h
   |some r=>rw[hr] at h;obtain⟨n,hn⟩:=Zy hr;refine Jb (n:=n+1) ?_;simp only[exec,hF,eF,ay hl,hn n (e7 n)];exact h
  ·cases h
def mN{f:FuncId}(hF:T f=none)(xs:List X):ev L T f xs=L f xs:=by
 refine La (λo h=>?_) λo h=>?_
 ·obtain⟨n,hn⟩:=Dq h;cases n with
  |zero=>cases hn
  |succ n=>simpa only[exec,hF] using hn
 ·refine Jb (n:=1) ?_;simpa only[exec,hF] using h
end
end M
namespace M
open Go
section
variable {C:cx}{ok:FuncId->Bool}{T:iE}
@[simp] def anB(s:ah):ai C ok .skip s=some (.normal,s):=rfl
@[simp] def anz(s:ah):ai C ok .ret s=some (.ret,s):=rfl
@[simp] def anu(i:Nat)(s:ah):ai C ok (.exit i) s=some (.exit i,s):=rfl
@[simp] def anw(l:List G)(s:ah):ai C ok (.ops l) s=iM (jR C ok l s):=rfl
@[simp] def ant(t:DT)(s:ah):ai C ok (.draw t) s=iM (eD C ok t s):=rfl
@[simp] def anA(a b:A)(s:ah):ai C ok (.seq a b) s=fq (ai C ok b) (ai C ok a s):=rfl
@[simp] def anr(i:Nat)(b:A)(s:ah):ai C ok (.block i b) s=kP i (ai C ok b s):=rfl
@[simp] def anv(b:A)(s:ah):ai C ok (.loop b) s=aG (ai C ok b) s:=rfl
@[simp] def anx(ks:List Nat)(b:A)(s:ah):ai C ok (.pk ks b) s=lg ks (ai C ok b s):=rfl
noncomputable def OT(C:cx)(ok:FuncId->Bool)(a b:A)(s:ah):X->cB
 |.bool t=>if t=true then ai C ok a s else ai C ok b s
 |_=>none
@[simp] def ans(c:AV)(a b:A)(s:ah):ai C ok (.cond c a b) s=OT C ok a b s (ax s c):=by simp only[ai];cases ax s c<;>rfl
@[simp] def amX(a b:A)(s:ah)(t:Bool):OT C ok a b s (.bool t)=if t=true then ai C ok a s else ai C ok b s:=rfl
@[simp] def anp(s:ah):jR C ok [] s=some s:=rfl
@[simp] def ano(g:G)(l:List G)(s:ah):jR C ok (g::l) s=(eG C ok g s).bind (jR C ok l):=rfl
@[simp] def ank(ks:List Nat)(s:ah):eD C ok (.nil ks) s=some (keep ks s):=rfl
@[simp] def anl(i:Nat)(g:G)(t:DT)(s:ah):eD C ok (.step i g t) s=(eG C ok g s).bind (eD C ok t):=rfl
@[simp] def ani(a b:DT)(s:ah):eD C ok (.alt a b) s=same (eD C ok a s) (eD C ok b s):=rfl
@[simp] def anj(ks:List Nat)(t:DT)(s:ah):eD C ok (.kp ks t) s=eD C ok t (keep ks s):=rfl
@[simp] def aoO(s:ah):same (some s) (some s)=some s:=by
 have:qN s s=true:=by
  induction s with
  |nil=>rfl
  |cons a l ih=>obtain⟨k,x⟩:=a;simp[qN,X.Pj,ih]
 simp[same,this]
@[simp] def amb(c:Prop)[Decidable c](a b:Option ah)(f:ah->Option ah):(if c then a else b).bind f=if c then a.bind f else b.bind f:=by split<;>rfl
def DI(C:cx)(ok:FuncId->Bool)(o:cq)(t:Nat)(b:Bool)(s:ah):X->Option ah
 |.bool v=>if v=b then cI C ok o ((t,.bool b)::s) else some (fO o.dst (.au []) ((t,.bool (!b))::s))
 |.au []=>some (fO o.dst (.au []) s)
 |_=>none
@[simp] def anm(o:cq)(s:ah):eG C ok ⟨none,o⟩ s=cI C ok o s:=rfl
@[simp] def ann(t:Nat)(b:Bool)(o:cq)(s:ah):eG C ok ⟨some (t,b),o⟩ s=DI C ok o t b s (get s t):=by simp only[eG];split<;>simp_all[DI]
@[simp] def anO(o:cq)(t:Nat)(b v:Bool)(s:ah):DI C ok o t b s (.bool v)=if v=b then cI C ok o ((t,.bool b)::s) else some (fO o.dst (.au []) ((t,.bool (!b))::s)):=rfl
@[simp] def anP(o:cq)(t:Nat)(b:Bool)(s:ah):DI C ok o t b s (.au [])=some (fO o.dst (.au []) s):=rfl
@[simp] def aoz(s:ah):iM (some s)=some (.normal,s):=rfl
@[simp] def aoy:iM none=none:=rfl
@[simp] def aox(c:Prop)[Decidable c](a b:Option ah):iM (if c then a else b)=if c then iM a else iM b:=by split<;>rfl
@[simp] def ahS(k:ah->cB)(s:ah):fq k (some (.normal,s))=k s:=rfl
@[simp] def aoQ(k:ah->cB)(i:Nat)(s:ah):fq k (some (.exit i,s))=some (.exit i,s):=rfl
@[simp] def aoT(k:ah->cB)(s:ah):fq k (some (.ret,s))=some (.ret,s):=rfl
@[simp] def aoS(k:ah->cB):fq k none=none:=rfl
@[simp] def aoR(k:ah->cB)(c:Prop)[Decidable c](a b:cB):fq k (if c then a else b)=if c then fq k a else fq k b:=by split<;>rfl
@[simp] def amf(i:Nat)(s:ah):kP i (some (.normal,s))=some (.normal,s):=rfl
@[simp] def amc(i j:Nat)(s:ah):kP i (some (.exit j,s))=if j=i then some (.normal,s) else some (.exit j,s):=rfl
@[simp] def amg(i:Nat)(s:ah):kP i (some (.ret,s))=some (.ret,s):=rfl
@[simp] def ame(i:Nat):kP i none=none:=rfl
@[simp] def amd(i:Nat)(c:Prop)[Decidable c](a b:cB):kP i (if c then a else b)=if c then kP i a else kP i b:=by split<;>rfl
@[simp] def aoI(ks:List Nat)(s:ah):lg ks (some (.normal,s))=some (.normal,keep ks s):=rfl
@[simp] def aoF(ks:List Nat)(i:Nat)(s:ah):lg ks (some (.exit i,s))=some (.exit i,s):=rfl
@[simp] def aoJ(ks:List Nat)(s:ah):lg ks (some (.ret,s))=some (.ret,s):=rfl
@[simp] def aoH(ks:List Nat):lg ks none=none:=rfl
@[simp] def aoG(ks:List Nat)(c:Prop)[Decidable c](a b:cB):lg ks (if c then a else b)=if c then lg ks a else lg ks b:=by split<;>rfl
def s5(rs:List RV)(n:Nat):cB->Option Out
 |some (.exit _,_)=>none
 |some (_,s)=>if X.clean.cC (dS rs s).1=true/\(dS rs s).1.any X.l9=false then some (uc (dS rs s).1,pV 0 n (dS rs s).2) else none
 |none=>none
def Jf(rs:List RV)(n:Nat)(s:ah):Option Out:=if X.clean.cC (dS rs s).1=true/\(dS rs s).1.any X.l9=false then some (uc (dS rs s).1,pV 0 n (dS rs s).2) else none
def aq{L:cx}{T:iE}{f:FuncId}{b:A}{rs:List RV}{n:Nat}(h:T f=some ⟨b,rs,n⟩){xs:List X}(hl:xs.length=n):ev L T f xs=s5 rs n (ai (ev L T) (aj T) b (mI xs)):=by rw[Zz h];unfold Dp;rw[ay hl];rfl
@[simp] def anN(rs:List RV)(n:Nat)(s:ah):s5 rs n (some (.ret,s))=Jf rs n s:=rfl
@[simp] def anM(rs:List RV)(n:Nat)(s:ah):s5 rs n (some (.normal,s))=Jf rs n s:=rfl
@[simp] def anL(rs:List RV)(n:Nat):s5 rs n none=none:=rfl
@[simp] def anK(rs:List RV)(n:Nat)(c:Prop)[Decidable c](a b:cB):s5 rs n (if c then a else b)=if c then s5 rs n a else s5 rs n b:=by split<;>rfl
@[simp] def aoM(d:Option Nat)(s:ah)(r:X)(ps:List X):pW d s (some (r,ps))=some (fO d r s):=rfl
@[simp] def aoL(d:Option Nat)(s:ah):pW d s none=none:=rfl
@[simp] def aoK(d:Option Nat)(s:ah)(c:Prop)[Decidable c](a b:Option Out):pW d s (if c then a else b)=if c then pW d s a else pW d s b:=by split<;>rfl
end
attribute [simp] Jf cI mI Cb Cd dS pV post uc X.l9 X.clean X.clean.cC X.clean.bH keep G4 C0 qE vq
end M
namespace M
open Go
def yJ(z bytes:Nat):A:=(.seq (.pk [0] (.ops [⟨none,.aT 2 .aS (.k (.row .own z []))⟩])) (.seq (.seq (.pk [0,4] (.ops [⟨none,.mv 3 (.t 0)⟩,⟨none,.rP 4 false (.t 3)⟩])) (.pk [0] (.cond (.t 4) (.seq (.pk [2,7] (.ops [⟨none,.aT 2 .aS (.k (.row .own z []))⟩])) .ret) .skip))) (.seq (.pk [2,7] (.ops [⟨none,.lit 5 .mv z []⟩,⟨none,.mv 6 (.t 0)⟩,⟨none,.app 7 .al z bytes (.t 5) (.t 6)⟩,⟨none,.aT 2 .aS (.t 7)⟩])) .ret)))
def ON:∀{rows:List (List X)},iy rows=true->X.clean.bH rows=true
 |[],_=>rfl
 |e::l,h=>by
  simp only[iy,aA,oK] at h
  have h1:X.clean.cC e=true:=by
   have h2:=h.1;clear h;induction e with
   |nil=>rfl
   |cons x e ih=>have hx:=h2 x (bF ..);have he:=ih λy hy=>h2 y (b8 _ hy);cases x<;>simp_all[scalar,X.clean.cC,X.clean]
  simp only[X.clean.bH,h1,ON h.2,Bool.and_self]
def YW[Bs]{P:Program}{f:FuncId}{z bytes:Nat}(hT:Told P f (yJ z bytes) [.t 2] 1){rows:List (List X)}(h1:rows.length*bytes<=140737488355328)(h2:iy rows=true)(h4:mo rows=true\/rows=[]):
  AC P f [.row .af z rows] λr ps=>r=.row .own z rows/\ps=[.dead]:=by
 refine hT.ac rfl ?_;have h3:=L5 h2;have h5:=ON h2;simp[yJ,eP,j9,oP,aR,base,Ends,h1,h3,h5];intro h6;rcases h4 with h4|h4;·rw[h4] at h6;cases h6
 ·subst h4;simp
def jQ(f0 z bytes:Nat):cx:=λf xs=>if f=f0 then (match xs with
 |[.row .af z' rows]=>if z'=z/\rows.length*bytes<=140737488355328/\iy rows=true/\(mo rows=true\/rows=[]) then some (.row .own z rows,[.dead]) else none
 |_=>none) else none
def OO[Bs]{P:Program}{f0 z bytes:Nat}(hT:Told P f0 (yJ z bytes) [.t 2] 1):(jQ f0 z bytes).Sound P:=λf xs o h=>by
 unfold jQ at h;split at h
 ·rename_i hf;subst hf;split at h
  ·split at h;·rename_i hc;obtain⟨rfl,c1,c2,c3⟩:=hc;cases h;exact YW hT c1 c2 c3
   ·cases h
  ·cases h
 ·cases h
def fZ(L L':cx):cx:=λf xs=>match L f xs with
 |some o=>some o
 |none=>L' f xs
def pS[Bs]{P:Program}{L L':cx}(h:L.Sound P)(h':L'.Sound P):(fZ L L').Sound P:=λf xs o e=>by
 unfold fZ at e;split at e;·rename_i o' e';cases e;exact h f xs _ e'
 ·exact h' f xs _ e
end M
namespace M
open Go
def sv:X->Value
 |.int k n=>.int k n
 |.bool b=>.bool b
 |.str s=>.string s
 |_=>undef
def ahJ{c:C}(h:scalar c.er=true):c.val=sv c.er:=by cases c<;>first|rfl|(simp[C.er,scalar] at h)
def Cf:X->Bool
 |.str s=>decide (s.size<=9223372036854775807)
 |x=>scalar x
def jG(f0:FuncId)(g:List X->Option X):cx:=λf xs=>if f=f0 then (match g xs with
 |some r=>if xs.all scalar=true/\Cf r=true then some (r,xs.map λ_=>.dead) else none
 |none=>none) else none
end M
namespace M
open Go Go.Sort
def nQ[B:Bs](w:World):Prop:=∀b,b<B.W0.heap.size->w.heap[b]?=B.W0.heap[b]?
def V8[Bs]{P:Program}{f:FuncId}{xs:List X}{r:X}(hx:∀x∈xs,scalar x=true)(hr:Cf r=true)
  (h:∀w,nQ w->Calls P f (xs.map sv).toArray w λe w'=>e=.returned (sv r)/\∃k os,w'=grow (w.drewN k) os):AC P f xs λr' ps=>r'=r/\ps=xs.map λ_=>.dead:=by
 intro w zl zb cs e hA lX;have hv:cs.map C.val=xs.map sv:=by rw[<-e,cK];exact b9 λc hc=>ahJ (hx _ (e▸fK hc))
 rw[hv];refine(h w λb hb=>(lX b hb).1).mono λe' w' ⟨he,k,os,hw⟩=>?_;subst hw;have hsz:w.heap.size<=(grow (w.drewN k) os).heap.size:=by simp[grow,World.drewN]
 have hs:∃c:C,c.er=r/\c.val=sv r/\c.ok (grow (w.drewN k) os) (Zf zl λ_ _=>False)/\c.bare/\∀b k,¬c.fp b k:=by
  cases r with
  |int k n=>exact⟨.int k n,rfl,rfl,trivial,trivial,λ_ _ h=>h⟩
  |bool b=>exact⟨.bool b,rfl,rfl,trivial,trivial,λ_ _ h=>h⟩
  |str s=>exact⟨.str s,rfl,rfl,by simp[Cf] at hr;exact hr,trivial,λ_ _ h=>h⟩
  |_=>simp[Cf,scalar] at hr
 obtain⟨c,c1,c2,c3,c4,c5⟩:=hs;have JF:Ext (λb k=>∃x∈cs,x.fp b k) w (grow (w.drewN k) os):=⟨rfl,rfl,rfl,hsz,λb hb=>.inl (by show (w.heap++os)[b]?=w.heap[b]?;exact M9 hb)⟩
 refine⟨c,cs.map λx=>.dead x.val,zl,⟨by rw[he,c2],by rw[cK];rfl,JF,⟨λx hx'=>?_,λx hx'=>?_,λx hx' b k hf=>?_,λb k hz=>kG (hA.cE b k (hz.imp id λh=>h.elim)) hsz,?_⟩,λx hx' b k hf=>?_,λ_ _ h=>h,λ_ _ h=>.inl h⟩,c1,?_⟩
 ·rcases bZ.1 hx' with rfl|hx';·exact c3
  ·obtain⟨y,_,rfl⟩:=bp.1 hx';trivial
 ·rcases bZ.1 hx' with rfl|hx';·exact c4
  ·obtain⟨y,_,rfl⟩:=bp.1 hx';trivial
 ·rcases bZ.1 hx' with rfl|hx';·exact(c5 b k hf).elim
  ·obtain⟨y,_,rfl⟩:=bp.1 hx';exact hf.elim
 ·refine fA.2 ⟨λx _ b k hf=>(c5 b k hf).elim,?_⟩;refine uG.2 λi j hi hj _ b k hf=>?_;obtain⟨y,_,hy⟩:=bp.1 (bx hi);rw[<-hy] at hf;exact hf.elim
 ·rcases bZ.1 hx' with rfl|hx';·exact(c5 b k hf).elim
  ·obtain⟨y,_,rfl⟩:=bp.1 hx';exact hf.elim
 ·rw[<-e];simp[cK,kJ,C.er]
def adp[Bs]{P:Program}{f0:FuncId}{g:List X->Option X}(h:∀xs r,g xs=some r->∀w,nQ w->Calls P f0 (xs.map sv).toArray w λe w'=>e=.returned (sv r)/\∃k os,w'=grow (w.drewN k) os):(jG f0 g).Sound P:=λf xs o e=>by
 unfold jG at e;split at e
 ·rename_i hf;subst hf;split at e
  ·rename_i r hr;split at e;·rename_i hc;cases e;exact V8 (oK.1 hc.1) hc.2 (h xs r hr)
   ·cases e
  ·cases e
 ·cases e
def TabIs.same[B:Bs]{P:Program}{w:World}{n:String}{k:IntKind}{zs:List Int}(h:Lib.TabIs P B.W0 n k zs)(hw:nQ w):Lib.TabIs P w n k zs:=by
 unfold Lib.TabIs World.var? at h⊢;cases hg:P.globalNamed n with
 |none=>rw[hg] at h;cases h
 |some g=>
  rw[hg] at h;simp only[gj] at h⊢
  have hlt:g<B.W0.heap.size:=by
   rcases iB g B.W0.heap.size with h'|h';·exact h'
   ·rw[lI h'] at h;cases h
  rw[hw g hlt];exact h
def ahN{P:Program}{W:World}{name:String}{k:IntKind}{zs:List Int}{g:Nat}{t e:TypeId}{n:Nat}
  (hg:P.globalNamed name=some g)(hty:(P.globals[g]?).map (·.type)=some t)(ht:P.underlying t=some (.array n e))(he:P.underlying e=some (.int k))(hce:P.cellsOf e=1)(hct:P.cellsOf t=n):
  ∀{l:List (String×DataW Unit)} {ps:List MemPlace},DataW.LaidVars P W l ps->(name,Lib.tabData k zs)∈l->Lib.TabIs P W name k zs
 |[],_,_,h=>by cases h
 |(nm,d)::l,ps,h,hm=>by
  obtain⟨g',t',cs,fuel,p,q,hg',ht',hvar,hd,hr,_⟩:=h;rcases bZ.1 hm with hm|hm;·obtain⟨rfl,rfl⟩:=CF hm;obtain rfl:=gZ (hg.symm.trans hg');obtain rfl:=gZ (hty.symm.trans ht');unfold Lib.TabIs;rw[hvar,<-Lib.cells_of_tab ht he hce hct hd]
  ·exact ahN hg hty ht he hce hct hr hm
end M
namespace M
open Go
def lv:Ex×ah->cB
 |(.normal,_)=>none
 |(.ret,s)=>some (.ret,s)
 |(.exit i,s)=>some (.exit i,s)
def mw{β γ:Type}(go:β->γ->γ ⊕ (Ex×ah)):List β->γ->γ ⊕ (Ex×ah)
 |[],g=>.inl g
 |b::l,g=>match go b g with
  |.inl g'=>mw go l g'
  |.inr o=>.inr o
def FE{xt:Nat}{β γ:Type}{f:ah->cB}(l:List β)(st:Nat->γ->ah)(go:β->γ->γ ⊕ (Ex×ah))(E:γ->ah)(Inv:Nat->γ->Prop)(g:γ)(h0:Inv 0 g)
  (h:∀i b g,l[i]?=some b->i<l.length->Inv i g->f (st i g)=(match go b g with|.inl g'=>some (.normal,st (i+1) g')|.inr o=>lv o))
  (hI:∀i b g g',l[i]?=some b->Inv i g->go b g=.inl g'->Inv (i+1) g')
  (hend:∀g,Inv l.length g->f (st l.length g)=some (.exit xt,E g)):
  aG f (st 0 g)=match mw go l g with|.inl g'=>some (.exit xt,E g')|.inr o=>lv o:=by
 suffices H:∀(r:List β) (i:Nat) (g:γ),Inv i g->l.drop i=r->i<=l.length->aG f (st i g)=match mw go r g with|.inl g'=>some (.exit xt,E g')|.inr o=>lv o from H l 0 g h0 rfl (sB _)
 intro r;induction r with
 |nil=>
  intro i g hi hr hl;have:i=l.length:=by have:=dr List.length hr;simp at this;omega
  subst this;rw[dY,hend g hi];rfl
 |cons b r ih=>
  intro i g hi hr hl
  have hlt:i<l.length:=by
   rcases iB i l.length with h|h;·exact h
   ·rw[Na h] at hr;cases hr
  have hb:l[i]?=some b:=by have:=ql hlt;rw[hr] at this;rw[cw hlt];cases this;rfl
  have hr':l.drop (i+1)=r:=by have:=ql hlt;rw[hr] at this;cases this;rfl
  rw[dY,h i b g hb hlt hi];unfold mw;cases hg:go b g with
  |inl g'=>exact ih (i+1) g' (hI i b g g' hb hi hg) hr' hlt
  |inr o=>obtain⟨e,s⟩:=o;cases e<;>simp[fq,lv]
def aM{α:Type}(p:α->Bool)(l:List α):Bool:=l.all p
def iX{α:Type}{p:α->Bool}{l:List α}:aM p l=true↔∀x∈l,p x=true:=oK
def cZ{xt:Nat}{β:Type}{f:ah->cB}(l:List β)(st:Nat->ah)(p:β->Bool)(R E:ah)
  (h:∀i b,l[i]?=some b->i<l.length->f (st i)=if p b=true then some (.normal,st (i+1)) else some (.ret,R))
  (hend:f (st l.length)=some (.exit xt,E)):
  aG f (st 0)=if aM p l=true then some (.exit xt,E) else some (.ret,R):=by
 show _=if l.all p=true then _ else _
 have H:=FE (f:=f) l (λi (_:Unit)=>st i) (λb _=>if p b=true then .inl () else .inr (.ret,R)) (λ_=>E) (λ_ _=>True) () trivial
  (λi b g hb hl _=>by rw[h i b hb hl];by_cases hp:p b=true<;>simp[hp,lv]) (λ_ _ _ _ _ _ _=>trivial) λ_ _=>hend
 refine H.trans ?_
 have:∀r:List β,mw (λb (_:Unit)=>if p b=true then .inl () else .inr (Ex.ret,R)) r ()=if r.all p=true then .inl () else .inr (.ret,R):=by
  intro r;induction r with
  |nil=>rfl
  |cons b r ih=>
   simp only[mw];by_cases hp:p b=true;·simp[hp,ih]
   ·simp[hp]
 rw[this];by_cases hp:l.all p=true<;>simp[hp,lv]
def FD{xt:Nat}{β γ:Type}{f:ah->cB}(l:List β)(st:Nat->γ->ah)(go:γ->β->γ)(E:γ->ah)(Inv:Nat->γ->Prop)(g:γ)(h0:Inv 0 g)
  (h:∀i b g,l[i]?=some b->i<l.length->Inv i g->f (st i g)=some (.normal,st (i+1) (go g b)))
  (hI:∀i b g,l[i]?=some b->Inv i g->Inv (i+1) (go g b))
  (hend:∀g,Inv l.length g->f (st l.length g)=some (.exit xt,E g)):
  aG f (st 0 g)=some (.exit xt,E (l.foldl go g)):=by
 refine(FE (f:=f) l st (λb g=>.inl (go g b)) E Inv g h0 h (λi b g g' hb hi e=>by cases e;exact hI i b g hb hi) hend).trans ?_
 have:∀(r:List β) (g:γ),mw (λb g=>.inl (go g b)) r g=(.inl (r.foldl go g):γ ⊕ (Ex×ah)):=by
  intro r;induction r with
  |nil=>intro g;rfl
  |cons b r ih=>intro g;simp only[mw,qm];exact ih _
 rw[this]
def nj{xt:Nat}{β:Type}{f:ah->cB}(l:List β)(st:Nat->ah)(E:ah)
  (h:∀i b,l[i]?=some b->i<l.length->f (st i)=some (.normal,st (i+1)))
  (hend:f (st l.length)=some (.exit xt,E)):aG f (st 0)=some (.exit xt,E):=
 FD l (λi (_:Unit)=>st i) (λ_ _=>()) (λ_=>E) (λ_ _=>True) () trivial (λi b _ hb hl _=>h i b hb hl) (λ_ _ _ _ _=>trivial) λ_ _=>hend
def bK{n:Int}(h1:-9223372036854775808<=n)(h2:n<=9223372036854775807):IntKind.i64.wrap n=n:=by simp only[IntKind.wrap,IntKind.signed,IntKind.bits,M7,bz];split<;>rename_i h<;>simp at h<;>omega
def aQ(n:Nat)(h:n<9223372036854775807):IntKind.i64.wrap (↑n+1)=↑n+1:=bK (by omega) (by omega)
attribute [simp] base GN gW look B6 uy wU C7 FM Bl kD iz
abbrev ag:=List UInt8
@[simp] def aoP(s:ag):ByteArray.size ⟨s.toArray⟩=s.length:=by simp[ByteArray.size]
@[simp] def str_inj(s t:ag):((⟨s.toArray⟩:ByteArray)=⟨t.toArray⟩)↔s=t:=by
 constructor
 ·intro h;injection h with h
  simpa using dr Array.toList h
 ·rintro rfl;rfl
def iP(s t:ag):(⟨s.toArray⟩:ByteArray)++⟨t.toArray⟩=⟨(s++t).toArray⟩:=by apply ByteArray.ext;rw[ByteArray.data_append];simp
@[simp] def eS(s:ag):List X:=[.str ⟨s.toArray⟩]
structure Wr where
 at_:Int
 text:ag
 deriving DecidableEq
structure bg where
 cells:List ag
 pending:List Wr
 deriving DecidableEq
@[simp] def eW(w:Wr):List X:=[.int .i64 w.at_,.str ⟨w.text.toArray⟩]
@[simp] def bT(m:Md)(d:bg):List X:=[.row m 1 (d.cells.map eS),.row m 2 (d.pending.map eW)]
@[simp] def aor(m:Md)(l:List ag):X.bY m (l.map eS)=l.map eS:=by induction l<;>simp_all[X.bY,X.dZ,X.md]
@[simp] def aov(m:Md)(l:List Wr):X.bY m (l.map eW)=l.map eW:=by induction l<;>simp_all[X.bY,X.dZ,X.md]
@[simp] def amI(l:List ag):X.clean.bH (l.map eS)=true:=by induction l<;>simp_all[X.clean.bH,X.clean.cC,X.clean]
@[simp] def amM(l:List Wr):X.clean.bH (l.map eW)=true:=by induction l<;>simp_all[X.clean.bH,X.clean.cC,X.clean]
def eZ{α:Type}(f:α->Int->Int):List α->Int->Int
 |[],n=>n
 |a::l,n=>if f a n<0 then -1 else eZ f l (f a n)
def rJ{xt:Nat}{β:Type}{f:ah->cB}(l:List β)(st:Nat->Int->ah)(z:β->Int->Int)(R:ah)(E:Int->ah)(n:Int)(hn:0<=n)(hm:n<=9223372036854775807)
  (hz:∀a n,z a n<=n\/z a n<0)
  (h:∀i b n,l[i]?=some b->i<l.length->0<=n->n<=9223372036854775807->f (st i n)=if z b n<0 then some (.ret,R) else some (.normal,st (i+1) (z b n)))
  (hend:∀n,f (st l.length n)=some (.exit xt,E n)):
  aG f (st 0 n)=if eZ z l n<0 then some (.ret,R) else some (.exit xt,E (eZ z l n)):=by
 have H:=FE (f:=f) l st (λb n=>if z b n<0 then .inr (.ret,R) else .inl (z b n)) E (λ_ n=>0<=n/\n<=9223372036854775807) n ⟨hn,hm⟩
  (λi b n hb hl hi => by rw[h i b n hb hl hi.1 hi.2]; by_cases hp : z b n < 0 <;> simp[hp, lv]) (λi b g g' hb hi hg=>by
   by_cases hp:z b g<0;·simp[hp] at hg
   ·simp[hp] at hg;have:=hz b g;omega) λg _=>hend g
 refine H.trans ?_
 have:∀(r:List β) (n:Int),0<=n->mw (λb n=>if z b n<0 then .inr (Ex.ret,R) else .inl (z b n)) r n=if eZ z r n<0 then .inr (.ret,R) else .inl (eZ z r n):=by
  intro r;induction r with
  |nil=>intro n hn;rw[aD (by simp[eZ];omega)];rfl
  |cons b r ih=>
   intro n hn;simp only[mw,eZ];by_cases hp:z b n<0;·simp[hp]
   ·simp only[hp,cT];exact ih _ (by omega)
 rw[this l n hn];by_cases hp:eZ z l n<0<;>simp[hp,lv]
def afz{α β:Type}(l:List α)(e:α->β)(z:β)(g:β->β){i:Nat}(hi:i<l.length)(hg:g z=e l[i]):
  ((l.take i).map e++List.replicate (l.length - i) z).modify i g=(l.take (i+1)).map e++List.replicate (l.length - (i+1)) z:=by
 apply hO;intro j;rw[uR];rcases Nat.lt_trichotomy j i with h|h|h;·rw[nO (by simp;omega),nO (by simp;omega)];simp only[cY,List.getElem?_take,ay h,ay (Nat.lt_succ_of_lt h),aD (Nat.ne_of_gt h)];cases l[j]?<;>rfl
 ·subst h;rw[iC (by simp;omega),nO (by simp;omega)];have:j - ((l.take j).map e).length=0:=by simp;omega
  rw[this,Uc (by omega)];simp only[cY,List.getElem?_take,ay (Nat.lt_succ_self j),cw hi,cG,cj,<-hg];rfl
 ·rw[iC (by simp;omega),iC (by simp;omega)];have h1:j - ((l.take i).map e).length=j - i:=by simp;omega
  have h2:j - ((l.take (i+1)).map e).length=j - (i+1):=by simp;omega
  rw[h1,h2,Ng,Ng];by_cases h3:j<l.length;·rw[ay (by omega),ay (by omega)];simp only[Nat.ne_of_lt h,cT];rfl
  ·rw[aD (by omega),aD (by omega)];rfl
def dW(rows:List (List X))(i:Nat)(z:List X):List (List X):=rows.take i++List.replicate (rows.length - i) z
@[simp] def anI(rows:List (List X))(i:Nat)(z:List X):(dW rows i z).length=rows.length:=by simp[dW];omega
@[simp] def ZF(rows:List (List X))(i:Nat)(z:List X)(h:i<rows.length):(dW rows i z)[i]?=some z:=by unfold dW;rw[iC (by simp;omega),Uc (by simp;omega)]
@[simp] def anH(rows:List (List X))(i:Nat)(z:List X)(h:i<(dW rows i z).length):(dW rows i z)[i]=z:=by
 have h':i<rows.length:=by simpa using h
 have:=ZF rows i z h';rw[cw h] at this;exact gZ this
@[simp] def anJ(rows:List (List X))(z:List X):dW rows 0 z=List.replicate rows.length z:=by simp[dW]
@[simp] def anG(rows:List (List X))(i:Nat)(z:List X)(h:i=rows.length):dW rows i z=rows:=by subst h;simp[dW]
@[simp] def iJ(rows:List (List X))(i:Nat)(z:List X)(g:List X->List X)(h:i<rows.length)(hg:g z=rows[i]):(dW rows i z).modify i g=dW rows (i+1) z:=by have:=afz rows id z g h (by simpa using hg);simpa [dW] using this
def pR{α:Type}(l:List α)(i:Nat)(f g:α->α):(l.modify i f).modify i g=l.modify i λx=>g (f x):=by
 apply hO;intro j;simp only[uR];by_cases h:i=j;·simp only[h,cG];cases l[j]?<;>rfl
 ·simp only[h,cT];cases l[j]?<;>rfl
def lK{α β:Type}:∀{a:List α} {b:List β},a.length=b.length->∃ps:List (α×β),a=ps.map Prod.fst/\b=ps.map Prod.snd
 |[],[],_=>⟨[],rfl,rfl⟩
 |x::a,y::b,h=>by obtain⟨ps,h1,h2⟩:=lK (a:=a) (b:=b) (by simpa using h);exact⟨(x,y)::ps,by simp[<-h1],by simp[<-h2]⟩
 |[],_::_,h=>by cases h
 |_::_,[],h=>by cases h
def cy{α:Type}[DecidableEq α](x:α×α):Bool:=decide (x.1=x.2)
def kO{α:Type}[DecidableEq α]:∀ps:List (α×α),aM cy ps=decide (ps.map Prod.fst=ps.map Prod.snd)
 |[]=>rfl
 |x::ps=>by have:=kO ps;unfold aM at this⊢;simp only[List.all_cons,this,cy,bD,uP];exact(Bool.decide_and ..).symm
def aff{xt:Nat}{β:Type}{f:ah->cB}(l:List β)(st:Int->ah)(p:β->Bool)(R:β->ah)(E:ah)
  (h:∀(i:Nat) b,l[i]?=some b->i<l.length->f (st i)=if p b=true then some (.ret,R b) else some (.normal,st (i - 1)))
  (hend:f (st (-1))=some (.exit xt,E)):
  aG f (st (l.length - 1))=(l.reverse.find? p).elim (some (.exit xt,E)) (λb=>some (.ret,R b)):=by
 suffices H:∀k,k<=l.length->aG f (st ((k:Int) - 1))=((l.take k).reverse.find? p).elim (some (.exit xt,E)) (λb=>some (.ret,R b)) by have:=H l.length (e7 _);rwa [uH] at this
 intro k;induction k with
 |zero=>intro _;rw[dY];simp[hend]
 |succ k ih=>
  intro hk;have hb:l[k]?=some l[k]:=cw hk;have e:((k+1:Nat):Int) - 1=(k:Int):=by omega
  rw[e,dY,h k _ hb hk,List.take_add_one,hb];simp only[Option.toList_some,MT,List.reverse_cons,List.reverse_nil,eN,TY,List.find?_cons];by_cases hp:p l[k]=true;·simp[hp]
  ·simp only[hp,fL,cT,ahS];exact ih (by omega)
def cM(d:bg)(a:Int):ag:=d.pending.foldl (λout w=>if w.at_=a then w.text else out) (d.cells.getD a.toNat [])
def Jn(a:Int):∀(l:List Wr) (x:ag),l.foldl (λout w=>if w.at_=a then w.text else out) x=(l.reverse.find? (λw=>decide (w.at_=a))).elim x Wr.text
 |[],x=>rfl
 |w::l,x=>by
  rw[qm,Jn a l,List.reverse_cons,List.find?_append];cases l.reverse.find? (λw=>decide (w.at_=a)) with
  |some v=>rfl
  |none=>by_cases h:w.at_=a<;>simp[h]
def nT(new old:List (List X))(i:Nat):List (List X):=new.take i++old.drop i
@[simp] def Pn(new old:List (List X))(i:Nat)(h:new.length=old.length):(nT new old i).length=old.length:=by simp[nT];omega
@[simp] def ZE(new old:List (List X))(i:Nat)(h:new.length=old.length)(hi:i<old.length):(nT new old i)[i]?=old[i]?:=by unfold nT;rw[iC (by simp;omega),oL];congr 1;simp;omega
@[simp] def anE(new old:List (List X))(i:Nat)(hl:i<(nT new old i).length)(h:new.length=old.length):(nT new old i)[i]=old[i]'(by rw[Pn _ _ _ h] at hl;exact hl):=by
 have hi:i<old.length:=by rw[Pn _ _ _ h] at hl;exact hl
 have:=ZE new old i h hi;rw[cw hl,cw hi] at this;exact gZ this
@[simp] def anF(new old:List (List X)):nT new old 0=old:=by simp[nT]
@[simp] def anD(new old:List (List X))(i:Nat)(h:new.length=old.length)(hi:i=old.length):nT new old i=new:=by subst hi;rw[<-h];simp[nT];omega
def pP(n:Nat)(out:ag):ag:=if h:n=0 then out else pP (n / 10) (UInt8.ofNat (48+n%10)::out)
termination_by n
decreasing_by omega
def AZ(k:Int):ag:=if k<=0 then [109,48] else 109::pP k.toNat []
def A0(n:Nat)(k:Int):List ag:=(List.range n).map λ(i:Nat)=>AZ (k+i)
def A1(n:Nat)(k:Int):List Wr:=(List.range n).map λ(i:Nat)=>⟨k+2*i,AZ (k+2*i+1)⟩
@[simp] def aob(n:Nat)(k:Int):(A0 n k).length=n:=by simp[A0]
@[simp] def aod(n:Nat)(k:Int):(A1 n k).length=n:=by simp[A1]
@[simp] def aoa(n:Nat)(k:Int)(i:Nat)(h:i<(A0 n k).length):(A0 n k)[i]=AZ (k+i):=by simp[A0]
@[simp] def aoc(n:Nat)(k:Int)(i:Nat)(h:i<(A1 n k).length):(A1 n k)[i]=⟨k+2*i,AZ (k+2*i+1)⟩:=by simp[A1]
def foldI{β γ:Type}(go:Nat->γ->β->γ):Nat->List β->γ->γ
 |_,[],g=>g
 |i,b::l,g=>foldI go (i+1) l (go i g b)
def iu{xt:Nat}{β γ:Type}{f:ah->cB}(l:List β)(st:Nat->γ->ah)(go:Nat->γ->β->γ)(E:γ->ah)(Inv:Nat->γ->Prop)(g:γ)(h0:Inv 0 g)
  (h:∀i b g,l[i]?=some b->i<l.length->Inv i g->f (st i g)=some (.normal,st (i+1) (go i g b)))
  (hI:∀i b g,l[i]?=some b->Inv i g->Inv (i+1) (go i g b))
  (hend:∀g,Inv l.length g->f (st l.length g)=some (.exit xt,E g)):
  aG f (st 0 g)=some (.exit xt,E (foldI go 0 l g)):=by
 suffices H:∀(r:List β) (i:Nat) (g:γ),Inv i g->l.drop i=r->i<=l.length->aG f (st i g)=some (.exit xt,E (foldI go i r g)) from H l 0 g h0 rfl (sB _)
 intro r;induction r with
 |nil=>
  intro i g hi hr hl;have:i=l.length:=by have:=dr List.length hr;simp at this;omega
  subst this;rw[dY,hend g hi];rfl
 |cons b r ih=>
  intro i g hi hr hl
  have hlt:i<l.length:=by
   rcases iB i l.length with h|h;·exact h
   ·rw[Na h] at hr;cases hr
  have hd:=ql hlt;rw[hr] at hd;have hb:l[i]?=some b:=by rw[cw hlt];cases hd;rfl
  have hr':l.drop (i+1)=r:=by cases hd;rfl
  rw[dY,h i b g hb hlt hi];exact ih (i+1) _ (hI i b g hb hi) hr' hlt
def gR(k:Nat->Bool)(i:Nat)(cs:List ag)(w:Wr):List ag:=if k i=true then cs.set w.at_.toNat w.text else cs
def nh(k:Nat->Bool)(cs:List ag)(ws:List Wr):List ag:=foldI (gR k) 0 ws cs
def Fw(k:Nat->Bool)(i:Nat)(cs:List ag)(w:Wr):(gR k i cs w).length=cs.length:=by unfold gR;split<;>simp
def PK(k:Nat->Bool):∀(ws:List Wr) (i:Nat) (cs:List ag),(foldI (gR k) i ws cs).length=cs.length
 |[],_,_=>rfl
 |w::ws,i,cs=>by rw[foldI,PK k ws,Fw]
def Q7(k:Nat->Bool)(cs:List ag)(ws:List Wr):(nh k cs ws).length=cs.length:=PK k ws 0 cs
@[simp] def aow(cs:List ag)(n:Nat)(t:ag):(cs.map eS).modify n (λx=>x.set 0 (X.str ⟨t.toArray⟩))=(cs.set n t).map eS:=by
 apply hO;intro j;rw[uR,cY,cY,yh];by_cases h:n=j
 ·subst h;simp only[cG];by_cases h2:n<cs.length;·simp[h2]
  ·simp[h2,kL (Nat.le_of_not_lt h2)]
 ·simp only[h,cT];cases cs[j]?<;>rfl
def gy(keep:List Bool)(all:Bool)(i:Nat):Bool:=all||keep.getD i false
@[simp] def eB(b:Bool):List X:=[.bool b]
@[simp] def aof(m:Md)(l:List Bool):X.bY m (l.map eB)=l.map eB:=by induction l<;>simp_all[X.bY,X.dZ,X.md]
@[simp] def amw(l:List Bool):X.clean.bH (l.map eB)=true:=by induction l<;>simp_all[X.clean.bH,X.clean.cC,X.clean]
def L6(l:List ag):iy (l.map eS)=true:=by induction l<;>simp_all[iy,scalar]
def SG(l:List Wr):iy (l.map eW)=true:=by induction l<;>simp_all[iy,scalar]
attribute [simp] L6 SG
@[simp] def amv(a b:List (List X)):X.clean.bH (a++b)=(X.clean.bH a && X.clean.bH b):=by
 induction a with
 |nil=>simp[X.clean.bH]
 |cons e a ih=>simp[X.clean.bH,ih,j0]
@[simp] def aoe(m:Md)(a b:List (List X)):X.bY m (a++b)=X.bY m a++X.bY m b:=by
 induction a with
 |nil=>simp[X.bY]
 |cons e a ih=>simp[X.bY,ih]
structure oN where
 code:List UInt8
 i:Nat
 h:Int
 hi:i<=code.length
 hl:code.length<=9223372036854775807
@[simp] def eU(b:UInt8):List X:=[.int .u8 (b.toNat:Int)]
@[simp] def aou(m:Md)(l:List UInt8):X.bY m (l.map eU)=l.map eU:=by induction l<;>simp_all[X.bY,X.dZ,X.md]
@[simp] def amL(l:List UInt8):X.clean.bH (l.map eU)=true:=by induction l<;>simp_all[X.clean.bH,X.clean.cC,X.clean]
def kg(c:oN):List X:=[.row .sl 1 (c.code.map eU),.int .i64 c.i,.int .i64 c.h]
@[simp] def anf(c:oN):(kg c).length=3:=rfl
@[simp] def anh(c:oN):(kg c).take 3=kg c:=rfl
@[simp] def anb(c:oN):(kg c).drop 3=[]:=rfl
@[simp] def ang(ks:List Nat)(c:oN):X.om ks (kg c)=kg c:=rfl
@[simp] def anc(r:Nat)(p:Path)(c:oN):X.gQ r p (kg c)=kg c:=rfl
@[simp] def ane(r:Nat)(p:Path)(c:oN):X.pK r p (kg c)=kg c:=rfl
@[simp] def ana(c:oN):X.clean.cC (kg c)=true:=by simp[kg,X.clean.cC,X.clean]
@[simp] def am9(c:oN):X.bare.js (kg c)=true:=by simp[kg,X.bare.js,X.bare]
end M
namespace M
open Go Go.RowKit
inductive Ty where
 |int (k:IntKind)
 |bool
 |str
 |row (ts:List Ty)
inductive iV:Ty->X->Prop
 |int {k n}:(Lit.int k n).wf=true->iV (.int k) (.int k n)
 |bool {b}:iV .bool (.bool b)
 |str {s:ByteArray}:s.size<=maxLen->iV .str (.str s)
 |row {ts xs}:xs.length<=maxLen->(∀r:List X,r∈xs->r.length=ts.length)->(∀(r:List X),r∈xs->∀(j:Nat) ty x,ts[j]?=some ty->r[j]?=some x->iV ty x)->iV (.row ts) (.row .sl ts.length xs)
structure CP (w:World) (ty:Ty) (c:C):Prop where
 cell:c.cell
 cQ:c.cQ
 fits:c.fits .sl
 ok:c.ok w (Zf (λb _=>b<w.heap.size) λ_ _=>False)
 fp:∀b k,¬c.fp b k
 yK:iV ty c.er
def kQ(w:World):List Ty->List Value->List C->Prop
 |[],[],[]=>True
 |ty::ts,v::vs,c::cs=>c.val=v/\CP w ty c/\kQ w ts vs cs
 |_,_,_=>False
def P3{w:World}:∀{ts:List Ty} {vs:List Value} {cs:List C} {ts':List Ty} {vs':List Value} {cs':List C},kQ w ts vs cs->kQ w ts' vs' cs'->kQ w (ts++ts') (vs++vs') (cs++cs')
 |[],[],[],_,_,_,_,h=>h
 |_::_,_::_,_::_,_,_,_,⟨h1,h2,h3⟩,h=>⟨h1,h2,P3 h3 h⟩
def P4{w:World}:∀{ts:List Ty} {vs:List Value} {cs:List C},kQ w ts vs cs->vs.length=ts.length/\cs.length=ts.length/\vs=cs.map C.val
 |[],[],[],_=>⟨rfl,rfl,rfl⟩
 |_::_,_::_,_::_,⟨h1,h2,h3⟩=>by obtain⟨e1,e2,e3⟩:=P4 h3;exact⟨by simp[e1],by simp[e2],by simp[h1,<-e3]⟩
def Jt{w:World}:∀{ts:List Ty} {vs:List Value} {cs:List C},kQ w ts vs cs->∀{j:Nat},j<ts.length->∃ty c,ts[j]?=some ty/\cs[j]?=some c/\vs[j]?=some c.val/\CP w ty c
 |ty::ts,v::vs,c::cs,⟨h1,h2,h3⟩,0,_=>⟨ty,c,rfl,rfl,by simp[h1],h2⟩
 |ty::ts,v::vs,c::cs,⟨h1,h2,h3⟩,j+1,h=>by obtain⟨ty,c,a1,a2,a3,a4⟩:=Jt h3 (j:=j) (by simpa using h);exact⟨ty,c,by simpa using a1,by simpa using a2,by simpa using a3,a4⟩
def xR(P:Program)(r:TypeId->Option (List Ty)):Nat->List Field->Option (List Ty)
 |_,[]=>some []
 |o,f::fs=>if f.offset=o then (r f.type).bind λts=>if ts.length=P.cellsOf f.type then (xR P r (o+ts.length) fs).map (ts++·) else none else none
def jo(P:Program):Nat->Bool->TypeId->Option (List Ty)
 |0,_,_=>none
 |n+1,deep,t=>match P.underlying t with
  |some .bool=>some [.bool]
  |some (.int k)=>some [.int k]
  |some .string=>some [.str]
  |some (.slice e)=>if deep then (jo P n true e).bind λts=>if ts.length=P.cellsOf e/\0<P.cellsOf e then some [.row ts] else none else none
  |some (.struct fs)=>(xR P (jo P n deep) 0 fs.toList).bind λts=>if ts.length=P.cellsOf t then some ts else none
  |_=>none
section
variable {H:Type}{enc:TypeId×Value->H}{P:Program}{w:World}{sp:Nat->Bool}{held:Bool}
def Td{r:TypeId->Option (List Ty)}{cs:List Value}
  (hr:∀t ts fuel cs' x,r t=some ts->DataW.trod enc P w 0 sp held fuel t cs'=some x->(∀v∈cs',v∈cs)->∃Cs,kQ w ts cs' Cs):
  ∀(fs:List Field) (o:Nat) (ts:List Ty),xR P r o fs=some ts->(∀f∈fs,∃fuel x,DataW.trod enc P w 0 sp held fuel f.type ((cs.drop f.offset).take (P.cellsOf f.type))=some x)->
   ∃Cs,kQ w ts ((cs.drop o).take ts.length) Cs
 |[],o,ts,h,_=>by cases h;exact⟨[],by simp[kQ]⟩
 |f::fs,o,ts,h,hx=>by
  simp only[xR] at h;split at h
  ·rename_i ho;simp only[kH] at h;obtain⟨t1,h1,h⟩:=h;split at h;·rename_i hl;simp only[kI] at h;obtain⟨t2,h2,rfl⟩:=h;obtain⟨fuel,x,hf⟩:=hx f (bF ..);obtain⟨C1,g1⟩:=hr _ _ _ _ _ h1 hf λv hv=>TU (MQ hv);obtain⟨C2,g2⟩:=Td hr fs _ _ h2 λf hf=>hx f (b8 _ hf);refine⟨C1++C2,?_⟩;rw[iD,List.take_add,CK];rw[ho,<-hl] at g1;exact P3 g1 g2
   ·cases h
  ·cases h
def ahD{w:World}{g o n m:Nat}{spot:Option Nat}{vs:List Value}(hn:0<n)(h:w.cells? 0 ((⟨g,o,spot⟩:Addr).add (0*m)) n=some vs):spot=none:=by
 obtain⟨_,hl,e3⟩:=World.cells?_some h;have e4:=e3 0 hn;have:∃v,vs[0]?=some v:=⟨vs[0],cw (by omega)⟩;obtain⟨v,hv⟩:=this;rw[hv] at e4;have ha:((⟨g,o,spot⟩:Addr).add (0*m)).add 0=⟨g,o,spot⟩:=by simp[Addr.add]
 rw[ha] at e4;unfold World.cell? at e4;cases spot with
 |none=>rfl
 |some k=>
  split at e4;·simp at e4
  ·cases e4
def trod_good:∀(n:Nat) (deep:Bool) (t:TypeId) (ts:List Ty),jo P n deep t=some ts->∀(fuel:Nat) (cs:List Value) (x:DataW H×List MemPlace),DataW.trod enc P w 0 sp held fuel t cs=some x->∃Cs,kQ w ts cs Cs
 |0,_,_,_,h,_,_,_,_=>by cases h
 |n+1,deep,t,ts,h,fuel,cs,x,hx=>by
  simp only[jo] at h;split at h;·rename_i hu;cases h;obtain⟨b,rfl,rfl⟩:=DataW.trod_bool hu hx;exact⟨[.bool b],rfl,⟨trivial,trivial,trivial,trivial,λ_ _ h=>h,.bool⟩,trivial⟩
  ·rename_i k hu;cases h;obtain⟨m,rfl,rfl,hw⟩:=DataW.trod_int hu hx;exact⟨[.int k m],rfl,⟨trivial,trivial,trivial,trivial,λ_ _ h=>h,.int hw⟩,trivial⟩
  ·rename_i hu;cases h;obtain⟨s,rfl,rfl,hw⟩:=DataW.trod_string hu hx;exact⟨[.str s],rfl,⟨trivial,trivial,trivial,hw,λ_ _ h=>h,.str hw⟩,trivial⟩
  ·rename_i e hu;split at h
   ·rename_i hd;simp only[kH] at h;obtain⟨te,h1,h⟩:=h;split at h
    ·rename_i hl;obtain⟨hl,hpos⟩:=hl;cases h;rcases DataW.trod_slice hu hx with ⟨rfl,rfl⟩|⟨a,len,cap,elems,rest,m,rfl,rfl,rfl,_,hlc,hcm,hel,ij,_,_⟩;·refine⟨[.row .sl te.length none 0 0 λ_ _=>.dead undef],rfl,⟨trivial,trivial,.inr (.inl rfl),⟨e7 _,λi j hi=>by omega,λi j hi=>by omega,λh=>(by cases h),λi j hi=>by omega⟩,λb k h=>(by cases h.1),?_⟩,trivial⟩;exact iV.row (xs:=[]) (by simp) (λr hr=>by cases hr) (λr hr=>by cases hr)
     ·obtain⟨g,o,spot⟩:=a;by_cases hl0:len=0;·subst hl0;refine⟨[.row .sl te.length (some (g,o,spot)) 0 cap λ_ _=>.dead undef],rfl,⟨trivial,trivial,.inr (.inl rfl),⟨hlc,λi j hi=>by omega,λi j hi=>by omega,λh=>(by cases h),λi j hi=>by omega⟩,λb k h=>(by cases h.1),?_⟩,trivial⟩;exact iV.row (xs:=[]) (by simp) (λr hr=>by cases hr) (λr hr=>by cases hr)
      have aem:spot=none:=by have:=ij 0 (by omega);rw[cw (by omega),kH] at this;obtain⟨vs,e1,e2⟩:=this;exact ahD hpos e1
      subst aem
      have hex:∀i,∃(vs:List Value) (l:List C),i<len->w.cells? 0 ((⟨g,o,none⟩:Addr).add (i*P.cellsOf e)) (P.cellsOf e)=some vs/\kQ w te vs l:=λi=>by
       by_cases hi:i<len;·have:=ij i hi;rw[cw (by omega),kH] at this;obtain⟨vs,e1,e2⟩:=this;obtain⟨l,hl⟩:=trod_good n true _ _ h1 _ _ _ e2;exact⟨vs,l,λ_=>⟨e1,hl⟩⟩
       ·exact⟨[],[],λh=>(hi h).elim⟩
      let vs:=λi=>(hex i).choose;let l:=λi=>(hex i).choose_spec.choose;have hvl:∀i,i<len->w.cells? 0 ((⟨g,o,none⟩:Addr).add (i*P.cellsOf e)) (P.cellsOf e)=some (vs i)/\kQ w te (vs i) (l i):=λi=>(hex i).choose_spec.choose_spec
      have hij:∀i j,i<len->j<te.length->∃ty,te[j]?=some ty/\(l i)[j]?=some ((l i).getD j (.dead undef))/\w.cell? ⟨g,o+i*te.length+j,none⟩=some ((l i).getD j (.dead undef)).val/\CP w ty ((l i).getD j (.dead undef)):=λi j hi hj=>by
       obtain⟨e1,e2⟩:=hvl i hi;obtain⟨ty,c,a1,a2,a3,a4⟩:=Jt e2 hj;have hc:(l i).getD j (.dead undef)=c:=by rw[kK,a2];rfl
       rw[hc];obtain⟨_,_,e3⟩:=World.cells?_some e1;have e4:=e3 j (by omega);rw[a3] at e4;refine⟨ty,a1,a2,?_,a4⟩;rw[<-e4];congr 1;rw[hl];unfold Addr.add;split<;>split<;>simp_all
      have hb:∀i j,i<len->j<te.length->g<w.heap.size:=λi j hi hj=>by obtain⟨_,_,_,h3,_⟩:=hij i j hi hj;exact World.block_lt_of_cell? w _ h3
      refine⟨[.row .sl te.length (some (g,o,none)) len cap λi j=>(l i).getD j (.dead undef)],rfl,⟨trivial,trivial,.inr (.inl rfl),⟨hlc,λi j hi hj=>⟨g,o,rfl,?_,λ_=>hb i j hi hj⟩,λi j hi hj=>?_,λh=>(by cases h),λi j hi hj b k hf=>?_⟩,λb k h=>(by cases h.1),?_⟩,trivial⟩;·obtain⟨ty,_,_,h3,h4⟩:=hij i j hi hj;exact h3
      ·obtain⟨ty,_,_,h3,h4⟩:=hij i j hi hj;exact⟨h4.cell,h4.cQ,h4.fits,h4.ok⟩
      ·obtain⟨ty,_,_,h3,h4⟩:=hij i j hi hj;exact(h4.fp b k hf).elim
      ·refine iV.row (by simpa using eO hlc hcm) (λr hr=>?_) λr hr j ty x hty JT=>?_;·simp only[bp,sw] at hr;obtain⟨i,_,rfl⟩:=hr;simp
       ·simp only[bp,sw] at hr;obtain⟨i,hi,rfl⟩:=hr
        have hj:j<te.length:=by
         rcases iB j te.length with h|h;·exact h
         ·rw[kL h] at hty;cases hty
        obtain⟨ty',e1,_,_,h4⟩:=hij i j hi hj;rw[e1] at hty;cases hty;rw[cY,sD hj] at JT;simp only[cj,dO] at JT;subst JT;exact h4.yK
    ·cases h
   ·cases h
  ·rename_i fs hu;simp only[kH] at h;obtain⟨te,h1,h⟩:=h;split at h
   ·rename_i hl;cases h;obtain⟨xs,m,rfl,rfl,hcs,hxl,ij⟩:=DataW.trod_struct hu hx
    obtain⟨Cs,hC⟩:=Td (cs:=cs) (λt ts' fuel cs' x hr ht hm=>trod_good n deep t ts' hr fuel cs' x ht) fs.toList 0 ts h1 λf hf=>by
     obtain⟨i,hi,rfl⟩:=yl hf;have hi':i<fs.size:=by simpa using hi
     have:=ij i (fs[i]) (by simp[hi']);rw[cw (by omega)] at this;exact⟨_,_,by simpa using this⟩
    refine⟨Cs,?_⟩;rw[HE,hl,<-hcs,uH] at hC;exact hC
   ·cases h
  ·cases h
def Mo:∀(n:Nat) (deep:Bool) (t:TypeId) (ts:List Ty),jo P n deep t=some ts->∀(fuel:Nat) (cs:List Value) (x:DataW H×List MemPlace),DataW.trod enc P w 0 (λ_=>true) held fuel t cs=some x->DataW.trod enc P w 0 (λb=>decide (b<w.heap.size)) held fuel t cs=some x
 |0,_,_,_,h,_,_,_,_=>by cases h
 |n+1,deep,t,ts,h,0,cs,x,hx=>by simp[DataW.trod] at hx
 |n+1,deep,t,ts,h,fuel+1,cs,x,hx=>by
  simp only[jo] at h;split at h;·rename_i hu;obtain⟨b,rfl,rfl⟩:=DataW.trod_bool hu hx;simp[DataW.trod,hu]
  ·rename_i k hu;obtain⟨m,rfl,rfl,hw⟩:=DataW.trod_int hu hx;simp[DataW.trod,hu,hw]
  ·rename_i hu;obtain⟨s,rfl,rfl,hw⟩:=DataW.trod_string hu hx;simp[DataW.trod,hu,hw]
  ·rename_i e hu;split at h
   ·simp only[kH] at h;obtain⟨te,h1,h⟩:=h;split at h
    ·rename_i hl;obtain⟨hl,hpos⟩:=hl;rcases DataW.trod_slice hu hx with ⟨rfl,rfl⟩|⟨a,len,cap,elems',rest',m,_,rfl,_⟩;·simp[DataW.trod,hu]
     ·unfold DataW.trod at hx⊢;simp only[hu] at hx⊢;split at hx
      ·rename_i hc;rw[ay hc];simp only[kI,kH,cG] at hx⊢;obtain⟨elems,he,rest,tn,rfl⟩:=hx;have one:∀(i:Nat) (y:DataW H×List MemPlace),(w.cells? 0 (a.add (i*P.cellsOf e)) (P.cellsOf e)).bind (DataW.trod enc P w 0 (λ_=>true) held fuel e)=some y->(w.cells? 0 (a.add (i*P.cellsOf e)) (P.cellsOf e)).bind (DataW.trod enc P w 0 (λb=>decide (b<w.heap.size)) held fuel e)=some y:=λi y hv=>by simp only[kH] at hv⊢;obtain⟨cs',jU,hy'⟩:=hv;exact⟨cs',jU,Mo n true _ _ h1 _ _ _ hy'⟩
       refine⟨elems,mapM_carry he λi y _ _ hv=>one i y hv,rest,?_,rfl⟩;by_cases hb:a.block<w.heap.size;·rw[ay (by simpa using hb)];exact mapM_carry tn λi y _ _ hv=>one (len+i) y hv
       ·rw[aD (by simpa using hb)]
        have:cap - len=0:=by
         rcases Nat.eq_zero_or_pos (cap - len) with h|h;·exact h
         ·have h0:=mapM_some_get tn 0 0 (by simp[h]);have hl':0<rest.length:=by have:=mapM_some_length tn;simp at this;omega
          rw[cw hl',kH] at h0;obtain⟨vs,e1,_⟩:=h0;have:=World.cells?_block e1 hpos;refine(hb ?_).elim;unfold Addr.add at this;split at this<;>exact this
        rw[this] at tn;exact tn
      ·cases hx
    ·cases h
   ·cases h
  ·rename_i fs hu;simp only[kH] at h;obtain⟨te,h1,h⟩:=h;unfold DataW.trod at hx⊢;simp only[hu] at hx⊢
   have each:∀(o:Nat) (l:List Field) (ts:List Ty),xR P (jo P n deep) o l=some ts->∀f∈l,∃t1,jo P n deep f.type=some t1:=by
    intro o l;induction l generalizing o with
    |nil=>intro _ _ f hf;cases hf
    |cons f l ih=>
     intro ts h f' hf';simp only[xR] at h;split at h
     ·simp only[kH] at h;obtain⟨t1,e1,h⟩:=h;split at h
      ·simp only[kI] at h;obtain⟨t2,e2,_⟩:=h;rcases bZ.1 hf' with rfl|hf';·exact⟨t1,e1⟩
       ·exact ih _ _ e2 f' hf'
      ·cases h
     ·cases h
   split at hx;·rename_i hc;rw[ay hc];simp only[kI] at hx⊢;obtain⟨xs,hx,rfl⟩:=hx;refine⟨xs,mapM_carry hx λf y hf _ hv=>?_,rfl⟩;obtain⟨t1,e1⟩:=each _ _ _ h1 f hf;exact Mo n deep _ _ e1 _ _ _ hv
   ·cases hx
  ·cases h
inductive mF where
 |one (ty:Ty)
 |agg (tys:List Ty)
inductive qo:mF->X->Prop
 |one {ty x}:iV ty x->qo (.one ty) x
 |agg {tys:List Ty} {l:List X}:l.length=tys.length->(∀(j:Nat) ty x,tys[j]?=some ty->l[j]?=some x->iV ty x)->qo (.agg tys) (.agg l)
def sJ(P:Program)(t:TypeId):Option mF:=match P.underlying t with
 |some (.struct _)=>(jo P 20 true t).map .agg
 |some .bool=>some (.one .bool)
 |some (.int k)=>some (.one (.int k))
 |some .string=>some (.one .str)
 |some (.slice _)=>(jo P 20 true t).bind fun
  |[ty]=>some (.one ty)
  |_=>none
 |_=>none
def NR{c:C}(h1:c.cell)(h2:c.cQ):c.bare:=by cases c<;>first|trivial|exact h2.elim
structure Nw (w:World) (a:mF) (v:Value) (c:C):Prop where
 val:c.val=v
 ok:c.ok w (Zf (λb _=>b<w.heap.size) λ_ _=>False)
 bare:c.bare
 fp:∀b k,¬c.fp b k
 yK:qo a c.er
def DH{ty:Ty}{cs:List Value}{Cs:List C}{v:Value}(h:kQ w [ty] cs Cs)(e:cs=[v]):∃c,Nw w (.one ty) v c:=by
 subst e;match Cs,h with
 |[c],⟨h1,h2,_⟩=>exact⟨c,h1,h2.ok,NR h2.cell h2.cQ,h2.fp,.one h2.yK⟩
def Wk{r:Reach}{base:Nat}{t:TypeId}{v:Value}{d:DataW H}{p:List MemPlace}{a:mF}(ha:sJ P t=some a)(hv:Value.okWide P w r base t v)(hd:DataW.Trod enc P w 0 sp held t v d p):∃c,Nw w a v c:=by
 obtain⟨fuel,hf⟩:=hd;unfold sJ at ha;split at ha
 ·rename_i fs hu;simp only[kI] at ha;obtain⟨ts,ht,rfl⟩:=ha;unfold Value.okWide at hv;rw[hu] at hv;obtain⟨cs,rfl,_,ts',_,_,hcell⟩:=hv;obtain⟨Cs,hC⟩:=trod_good _ _ _ _ ht _ _ _ hf;obtain⟨l1,l2,l3⟩:=P4 hC;have ij:∀j,j<Cs.length->∃ty,ts[j]?=some ty/\CP w ty (Cs.getD j (.dead undef)):=λj hj=>by obtain⟨ty,c,a1,a2,a3,a4⟩:=Jt hC (j:=j) (by omega);exact⟨ty,a1,by rw[kK,a2];exact a4⟩
  refine⟨.agg Cs.length λj=>Cs.getD j (.dead undef),?_,⟨λj hj=>?_,λj hj b k hf=>?_⟩,λj hj=>?_,λb k ⟨j,hj,hf⟩=>?_,?_⟩;·show Value.agg _=_;congr 1;apply oG;show (List.range Cs.length).map (λj=>(Cs.getD j (.dead undef)).val)=cs.toList;have:(Value.agg cs).cells.toList=cs.toList:=rfl;rw[<-this,l3];letI:Bs:=⟨w⟩;exact mh Cs _ C.val
  ·obtain⟨_,_,h⟩:=ij j hj;exact⟨h.cell,h.ok⟩
  ·obtain⟨_,_,h⟩:=ij j hj;exact(h.fp b k hf).elim
  ·obtain⟨_,_,h⟩:=ij j hj;exact NR h.cell h.cQ
  ·obtain⟨_,_,h⟩:=ij j hj;exact h.fp b k hf
  ·refine qo.agg (by simpa using l2) λj ty x hty hx=>?_
   have hj:j<Cs.length:=by
    rcases iB j Cs.length with h|h;·exact h
    ·rw[kL (by simpa using h)] at hx;cases hx
   obtain⟨ty',e1,h⟩:=ij j hj;rw[e1] at hty;cases hty;rw[cY,sD hj] at hx;simp only[cj,dO] at hx;subst hx;exact h.yK
 ·rename_i hu;cases ha;obtain⟨Cs,hC⟩:=trod_good 1 true t [.bool] (by simp[jo,hu]) _ _ _ hf;obtain⟨b,hb,_⟩:=DataW.trod_bool hu hf;exact DH hC (v:=v) (by unfold Value.okWide at hv;rw[hu] at hv;unfold Cell.okWide at hv;rw[hu] at hv;unfold Cell.ok at hv;rw[hu] at hv;cases v<;>first|rfl|(simp at hv;done))
 ·rename_i k hu;cases ha;obtain⟨m,hb,_⟩:=DataW.trod_int hu hf;obtain⟨Cs,hC⟩:=trod_good 1 true t [.int k] (by simp[jo,hu]) _ _ _ hf;exact DH hC (v:=v) (by unfold Value.okWide at hv;rw[hu] at hv;unfold Cell.okWide at hv;rw[hu] at hv;unfold Cell.ok at hv;rw[hu] at hv;cases v<;>first|rfl|(simp at hv;done))
 ·rename_i hu;cases ha;obtain⟨m,hb,_⟩:=DataW.trod_string hu hf;obtain⟨Cs,hC⟩:=trod_good 1 true t [.str] (by simp[jo,hu]) _ _ _ hf;exact DH hC (v:=v) (by unfold Value.okWide at hv;rw[hu] at hv;unfold Cell.okWide at hv;rw[hu] at hv;unfold Cell.ok at hv;rw[hu] at hv;cases v<;>first|rfl|(simp at hv;done))
 ·rename_i e hu;simp only[kH] at ha;obtain⟨ts,ht,ha⟩:=ha;split at ha
  ·rename_i ty;cases ha;have hc:Cell.okWide P w r base t v:=by unfold Value.okWide at hv;rw[hu] at hv;exact hv
   have hv1:v.cells.toList=[v]:=by unfold Cell.okWide at hc;rw[hu] at hc;unfold Cell.ok at hc;rw[hu] at hc;cases v<;>first|rfl|(simp at hc;done)
   obtain⟨Cs,hC⟩:=trod_good _ _ _ _ ht _ _ _ hf;exact DH hC hv1
  ·cases ha
 ·cases ha
def uU:List mF->List X->Prop
 |[],[]=>True
 |a::as,x::xs=>qo a x/\uU as xs
 |_,_=>False
def NL{r:Reach}{base:Nat}:∀{ts:List TypeId} {as:List mF} {vs:List Value} {ds:List (DataW H)} {p:List MemPlace},ts.map (sJ P)=as.map some->
  (∀(j:Nat) t v,ts[j]?=some t->vs[j]?=some v->Value.okWide P w r base t v)->DataW.TrodAll enc P w 0 sp held ts vs ds p->
  ∃cs:List C,cs.map C.val=vs/\(∀c∈cs,c.ok w (Zf (λb _=>b<w.heap.size) λ_ _=>False)/\c.bare/\∀b k,¬c.fp b k)/\uU as (cs.map C.er)
 |[],[],[],[],_,_,_,_=>⟨[],rfl,λ_ h=>(by cases h),trivial⟩
 |t::ts,a::as,v::vs,d::ds,_,ha,hv,⟨p,q,h1,h2,_⟩=>by
  simp only[bD,uP] at ha;obtain⟨c,hc⟩:=Wk ha.1 (hv 0 t v rfl rfl) h1;obtain⟨cs,e1,e2,e3⟩:=NL ha.2 (λj t' v' ht ez=>hv (j+1) t' v' (by simpa using ht) (by simpa using ez)) h2;refine⟨c::cs,by simp[hc.val,e1],λx hx=>?_,⟨hc.yK,e3⟩⟩;rcases bZ.1 hx with rfl|hx;·exact⟨hc.ok,hc.bare,hc.fp⟩
  ·exact e2 x hx
def ams{r:Reach}{base:Nat}{ts:List TypeId}{as:List mF}{vs:List Value}{ds:List (DataW H)}{p:List MemPlace}{f:FuncId}(ha:ts.map (sJ P)=as.map some)
  (hv:∀(j:Nat) t v,ts[j]?=some t->vs[j]?=some v->Value.okWide P w r base t v)(hd:DataW.TrodAll enc P w 0 sp held ts vs ds p)
  (hAC:∀xs,uU as xs->@AC ⟨w⟩ P f xs λr _=>r=.bool true):Calls P f vs.toArray w λe w'=>e=.returned (.bool true)/\Below w.heap.size w w':=by
 obtain⟨cs,rfl,hcs,hc⟩:=NL ha hv hd;refine(hAC _ hc w (λb _=>b<w.heap.size) (λ_ _=>False) cs rfl ⟨λx hx=>(hcs x hx).1,λx hx=>(hcs x hx).2.1,λx hx b k hf=>((hcs x hx).2.2 b k hf).elim,λb k h=>h.elim id False.elim,?_⟩ λb hb=>⟨rfl,λk=>.inl hb⟩).mono λe w' ⟨r,ps,aH,hD,hr⟩=>?_;·refine uG.2 λi j hi hj _ b k hf=>((hcs _ (bx hi)).2.2 b k hf).elim
 ·letI:Bs:=⟨w⟩;have hr':=qP hr;subst hr';exact⟨hD.ends,(hD.ext.mono (S':=λ_ _=>False) λb k ⟨x,hx,hf⟩ _=>(hcs x hx).2.2 b k hf).below⟩
def Wj{t:TypeId}{a:mF}(h:sJ P t=some a):∃n deep ts,jo P n deep t=some ts:=by
 unfold sJ at h;split at h;·simp only[kI] at h;obtain⟨ts,ht,_⟩:=h;exact⟨_,_,ts,ht⟩
 ·rename_i hu;exact⟨1,true,[.bool],by simp[jo,hu]⟩
 ·rename_i k hu;exact⟨1,true,[.int k],by simp[jo,hu]⟩
 ·rename_i hu;exact⟨1,true,[.str],by simp[jo,hu]⟩
 ·simp only[kH] at h;obtain⟨ts,ht,_⟩:=h;exact⟨_,_,ts,ht⟩
 ·cases h
def alq{w':World}(hb:Below w.heap.size w w'):∀{ts:List TypeId} {as:List mF} {vs:List Value} {ds:List (DataW H)} {p:List MemPlace},ts.map (sJ P)=as.map some->
  DataW.TrodAll enc P w 0 (λ_=>true) held ts vs ds p->DataW.TrodAll enc P w' 0 (λb=>decide (b<w.heap.size)) held ts vs ds p
 |[],[],[],[],_,_,h=>h
 |t::ts,a::as,v::vs,d::ds,_,ha,⟨p,q,⟨fuel,h1⟩,h2,e⟩=>by simp only[bD,uP] at ha;obtain⟨n,deep,tt,ht⟩:=Wj ha.1;have h3:=Mo n deep t tt ht _ _ _ h1;exact⟨p,q,⟨fuel,DataW.trod_carry _ _ _ _ h3 λm hm=>hb.same (DataW.trod_lt _ _ _ _ h3 m hm)⟩,alq hb ha.2 h2,e⟩
end
end M
namespace M
open Go
def dI(ts:List Ty)(r:List X):Prop:=r.length=ts.length/\∀(j:Nat) ty x,ts[j]?=some ty->r[j]?=some x->iV ty x
def dI.nil{r:List X}(h:dI [] r):r=[]:=Nn.1 h.1
def dI.cons{ty:Ty}{ts:List Ty}{r:List X}(h:dI (ty::ts) r):∃x r',r=x::r'/\iV ty x/\dI ts r':=by
 obtain⟨h1,h2⟩:=h;cases r with
 |nil=>cases h1
 |cons x r=>exact⟨x,r,rfl,h2 0 ty x rfl rfl,by simpa using h1,λj ty x ht hx=>h2 (j+1) ty x (by simpa using ht) (by simpa using hx)⟩
def lQ{x:X}(h:iV .str x):∃s:ag,x=.str ⟨s.toArray⟩/\s.length<=9223372036854775807:=by
 cases h with
 |str h=>rename_i s;exact⟨s.data.toList,by simp,by rw[xZ];exact h⟩
def Za{x:X}(h:iV .bool x):∃b,x=.bool b:=by cases h;exact⟨_,rfl⟩
def WD{n:Int}(h:(Lit.int .i64 n).wf=true):-9223372036854775808<=n/\n<=9223372036854775807:=by have h':(decide (IntKind.i64.min<=n) && decide (n<=IntKind.i64.max))=true:=h;rw[aA,bz,bz] at h';exact h'
def iZ{x:X}(h:iV (.int .i64) x):∃n:Int,x=.int .i64 n/\-9223372036854775808<=n/\n<=9223372036854775807:=by
 cases h with
 |int h=>rename_i n;refine⟨n,rfl,?_⟩;exact WD h
def Rg{α:Type}{e:α->List X}{ok:α->Prop}:∀{xs:List (List X)},(∀r∈xs,∃a,r=e a/\ok a)->∃l:List α,xs=l.map e/\∀a∈l,ok a
 |[],_=>⟨[],rfl,λ_ h=>by cases h⟩
 |r::xs,h=>by
  obtain⟨a,e1,e2⟩:=h r (bF ..);obtain⟨l,e3,e4⟩:=Rg (λr hr=>h r (b8 _ hr));refine⟨a::l,by simp[e1,e3],λb hb=>?_⟩;rcases bZ.1 hb with rfl|hb;·exact e2
  ·exact e4 b hb
def lP{α:Type}(e:α->List X)(ok:α->Prop){ts:List Ty}{x:X}(h:iV (.row ts) x)(hr:∀r,dI ts r->∃a,r=e a/\ok a):∃l:List α,x=.row .sl ts.length (l.map e)/\l.length<=9223372036854775807/\∀a∈l,ok a:=by
 cases h with
 |row h1 h2 h3=>rename_i xs;obtain⟨l,rfl,hl⟩:=Rg (e:=e) (ok:=ok) (xs:=xs) λr hr'=>hr r ⟨h2 r hr',h3 r hr'⟩;rw[dx] at h1;exact⟨l,rfl,h1,hl⟩
def Y0{tys:List Ty}{x:X}(h:qo (.agg tys) x):∃l,x=.agg l/\dI tys l:=by
 cases h with
 |agg h1 h2=>exact⟨_,rfl,h1,h2⟩
def amY{a:mF}{as:List mF}{xs:List X}(h:uU (a::as) xs):∃x xs',xs=x::xs'/\qo a x/\uU as xs':=by
 match xs,h with
 |x::xs',⟨h1,h2⟩=>exact⟨x,xs',rfl,h1,h2⟩
def amZ{xs:List X}(h:uU [] xs):xs=[]:=by
 match xs,h with
 |[],_=>rfl
structure alX (d:bg):Prop where
 hb:d.cells.length<=9223372036854775807
 hs:∀s∈d.cells,s.length<=9223372036854775807
 hb':d.pending.length<=9223372036854775807
 hs':∀s∈d.pending,s.text.length<=9223372036854775807
 hi:∀s∈d.pending,-9223372036854775808<=s.at_/\s.at_<=9223372036854775807
end M
namespace M
open Go
end M
namespace M
open Go
def Tg(m:Nat)(h:m<256):sn [[.int .u8 (m:Int)]]=some [UInt8.ofNat m]:=by
 have:=Tf [UInt8.ofNat m];have e:((UInt8.ofNat m).toNat:Int)=m:=by rw[M1];omega
 simp only[bD,mD,e] at this;exact this
def Mx{n:Int}(h1:0<=n)(h2:n<256):IntKind.u8.wrap n=n:=by simp only[IntKind.wrap,IntKind.signed,IntKind.bits,M5,fL,cT];omega
def aX(n:Nat):ag:=Lib.decDigits n
def Rs:∀(n:Nat) (out:ag),n≠0->pP n out=aX n++out:=by
 intro n;induction n using Nat.strongRecOn with
 |ind n ih=>
  intro out h;unfold pP aX;rw[uM h,Lib.decDigits];by_cases h1:n<10
  ·have e:n / 10=0:=by omega
   have e2:n%10=n:=by omega
   rw[nN h1,e,e2];unfold pP;rw[nN rfl];rfl
  ·rw[uM h1,ih (n / 10) (by omega) _ (by omega)];unfold aX;rw[mE];rfl
def Dk:aX 0=[48]:=by unfold aX;rw[Lib.decDigits];rfl
def qL(k:Nat):∀(n:Nat),n<10^(k+1)->(aX n).length<=k+1:=by
 induction k with
 |zero=>intro n h;unfold aX;rw[Lib.decDigits,nN (by simpa using h)];simp
 |succ k ih=>
  intro n h;unfold aX;rw[Lib.decDigits];by_cases h1:n<10;·rw[nN h1];simp
  ·rw[uM h1,iD];have:=ih (n / 10) (by rw[Hx] at h;omega);unfold aX at this;simp only[cR,kM];omega
def Kl(n:Nat):Lib.itoa (n:Int)=aX n:=by unfold Lib.itoa aX;rw[aD (by omega)];rfl
def Af:List X->Option X
 |[.int .i64 n]=>if -9223372036854775808<=n/\n<=9223372036854775807 then some (.str ⟨(Go.Lib.itoa n).toArray⟩) else none
 |_=>none
def aeB(f:FuncId)(n:Nat)(h:n<10^18):jG f Af f [.int .i64 (n:Int)]=some (.str ⟨(aX n).toArray⟩,[.dead]):=by
 have h1:(n:Int)<=9223372036854775807:=by omega
 have h2:=qL 17 n (by omega);simp[jG,Af,Kl,scalar,Cf,h1];omega
end M
namespace M
open Go
def wS(s:ag):Nat:=s.length
def wO{α:Type}(_:α):Nat:=0
def wL{α:Type}(w:α->Nat)(l:List α):Nat:=l.length+(l.map w).sum
def fu{α:Type}{w:α->Nat}:∀{l:List α} {a:α},a∈l->w a<=wL w l
 |b::l,a,h=>by
  rcases bZ.1 h with rfl|h;·simp[wL];omega
  ·have:=fu (w:=w) h;simp[wL] at this⊢;omega
def bn{α:Type}{w:α->Nat}(l:List α):l.length<=wL w l:=by unfold wL;omega
def aB(n:Int)(w:Nat):Int:=if (w:Int)<=n then n - w else -1
def bR(n:Int)(w:Nat):((w:Int)<=n/\aB n w=n - w)\/(n<(w:Int)/\aB n w=-1):=by
 unfold aB;split;·exact .inl ⟨by assumption,rfl⟩
 ·exact .inr ⟨by omega,rfl⟩
def sg(w:Nat)(n:Int):aB n w<=n\/aB n w<0:=by have:=bR n w;omega
def qc{α:Type}(w:α->Nat):∀(l:List α) (n:Int),0<=n->eZ (λb n=>aB n (w b)) l n=aB n (l.map w).sum
 |[],n,h=>by simp[eZ,aB,h]
 |b::l,n,h=>by
  simp only[eZ,bD,sx];rcases bR n (w b) with ⟨h1,h2⟩|⟨h1,h2⟩;·rw[aD (by omega),qc w l _ (by omega),h2];rcases bR (n - w b) (l.map w).sum with ⟨h3,h4⟩|⟨h3,h4⟩<;>rcases bR n (w b+(l.map w).sum) with ⟨h5,h6⟩|⟨h5,h6⟩<;>omega
  ·rw[ay (by omega)];rcases bR n (w b+(l.map w).sum) with ⟨h5,h6⟩|⟨h5,h6⟩<;>omega
def bI(n:Int):Prop:=-9223372036854775808<=n/\n<=9223372036854775807
def bS(s:ag):Prop:=s.length<=9223372036854775807
def bB(_:Bool):Prop:=True
def bL{α:Type}(b:α->Prop)(l:List α):Prop:=l.length<=9223372036854775807/\∀a∈l,b a
@[simp] def eI(n:Int):List X:=[.int .i64 n]
@[simp] def aol(m:Md)(l:List Int):X.bY m (l.map eI)=l.map eI:=by induction l<;>simp_all[X.bY,X.dZ,X.md]
@[simp] def amC(l:List Int):X.clean.bH (l.map eI)=true:=by induction l<;>simp_all[X.clean.bH,X.clean.cC,X.clean]
structure aJ where
 name:ag
 value:ag
 deriving DecidableEq
@[simp] def aK(a:aJ):List X:=[.str ⟨(a.name).toArray⟩,.str ⟨(a.value).toArray⟩]
@[simp] def aok(m:Md)(l:List aJ):X.bY m (l.map aK)=l.map aK:=by induction l<;>simp_all[X.bY,X.dZ,X.md]
@[simp] def amB(l:List aJ):X.clean.bH (l.map aK)=true:=by induction l<;>simp_all[X.clean.bH,X.clean.cC,X.clean]
def aN(a:aJ):Nat:=a.name.length+a.value.length
structure qy (x:aJ):Prop where
 aeJ:bS x.name
 aeT:bS x.value
def Zi(a b:aJ):decide (a=b)=(decide (a.name=b.name) && decide (a.value=b.value)):=by cases a;cases b;simp[j0]
structure cg where
 status:Int
 fields:List aJ
 body:ag
 deriving DecidableEq
@[simp] def iI(m:Md)(a:cg):List X:=[.int .i64 a.status,.row m 2 ((a.fields).map aK),.str ⟨(a.body).toArray⟩]
@[simp] def aoq(m m':Md)(l:List cg):X.bY m (l.map (iI m'))=l.map (iI m):=by induction l<;>simp_all[X.bY,X.dZ,X.md]
@[simp] def amH(l:List cg):X.clean.bH (l.map (iI .own))=true:=by induction l<;>simp_all[X.clean.bH,X.clean.cC,X.clean]
@[simp] def amU(l:List cg):X.clean.bH (l.map (iI .sl))=true:=by induction l<;>simp_all[X.clean.bH,X.clean.cC,X.clean]
def bC(a:cg):Nat:=wL aN a.fields+a.body.length
structure ve (x:cg):Prop where
 an5:bI x.status
 Kn:(bL qy) x.fields
 Km:bS x.body
def Zn(a b:cg):decide (a=b)=(decide (a.status=b.status) && decide (a.fields=b.fields) && decide (a.body=b.body)):=by cases a;cases b;simp[j0]
structure Rq where
 method:Int
 path:ag
 fields:List aJ
 body:ag
 deriving DecidableEq
@[simp] def ja(m:Md)(a:Rq):List X:=[.int .i64 a.method,.str ⟨(a.path).toArray⟩,.row m 2 ((a.fields).map aK),.str ⟨(a.body).toArray⟩]
@[simp] def aop(m m':Md)(l:List Rq):X.bY m (l.map (ja m'))=l.map (ja m):=by induction l<;>simp_all[X.bY,X.dZ,X.md]
@[simp] def amG(l:List Rq):X.clean.bH (l.map (ja .own))=true:=by induction l<;>simp_all[X.clean.bH,X.clean.cC,X.clean]
@[simp] def amT(l:List Rq):X.clean.bH (l.map (ja .sl))=true:=by induction l<;>simp_all[X.clean.bH,X.clean.cC,X.clean]
def cF(a:Rq):Nat:=a.path.length+wL aN a.fields+a.body.length
structure vb (x:Rq):Prop where
 an2:bI x.method
 Kq:bS x.path
 Kn:(bL qy) x.fields
 Km:bS x.body
def Zm(a b:Rq):decide (a=b)=(decide (a.method=b.method) && decide (a.path=b.path) && decide (a.fields=b.fields) && decide (a.body=b.body)):=by cases a;cases b;simp[j0]
structure Ob where
 path:ag
 names:List ag
 values:List ag
 resp:cg
 t:Int
 deriving DecidableEq
@[simp] def bA(m:Md)(a:Ob):List X:=[.str ⟨(a.path).toArray⟩,.row m 1 ((a.names).map eS),.row m 1 ((a.values).map eS),.int .i64 a.resp.status,.row m 2 ((a.resp.fields).map aK),.str ⟨(a.resp.body).toArray⟩,.int .i64 a.t]
@[simp] def aon(m m':Md)(l:List Ob):X.bY m (l.map (bA m'))=l.map (bA m):=by induction l<;>simp_all[X.bY,X.dZ,X.md]
@[simp] def amE(l:List Ob):X.clean.bH (l.map (bA .own))=true:=by induction l<;>simp_all[X.clean.bH,X.clean.cC,X.clean]
@[simp] def amR(l:List Ob):X.clean.bH (l.map (bA .sl))=true:=by induction l<;>simp_all[X.clean.bH,X.clean.cC,X.clean]
def aZ(a:Ob):Nat:=a.path.length+wL wS a.names+wL wS a.values+bC a.resp
structure yC (x:Ob):Prop where
 Kq:bS x.path
 aeK:(bL bS) x.names
 aeU:(bL bS) x.values
 wo:ve x.resp
 Kr:bI x.t
def Zk(a b:Ob):decide (a=b)=(decide (a.path=b.path) && decide (a.names=b.names) && decide (a.values=b.values) && decide (a.resp=b.resp) && decide (a.t=b.t)):=by cases a;cases b;simp[j0]
structure Kp where
 obj:Ob
 at_:Int
 seq:Int
 deriving DecidableEq
@[simp] def aE(m:Md)(a:Kp):List X:=[.str ⟨(a.obj.path).toArray⟩,.row m 1 ((a.obj.names).map eS),.row m 1 ((a.obj.values).map eS),.int .i64 a.obj.resp.status,.row m 2 ((a.obj.resp.fields).map aK),.str ⟨(a.obj.resp.body).toArray⟩,.int .i64 a.obj.t,.int .i64 a.at_,.int .i64 a.seq]
@[simp] def aom(m m':Md)(l:List Kp):X.bY m (l.map (aE m'))=l.map (aE m):=by induction l<;>simp_all[X.bY,X.dZ,X.md]
@[simp] def amD(l:List Kp):X.clean.bH (l.map (aE .own))=true:=by induction l<;>simp_all[X.clean.bH,X.clean.cC,X.clean]
@[simp] def amQ(l:List Kp):X.clean.bH (l.map (aE .sl))=true:=by induction l<;>simp_all[X.clean.bH,X.clean.cC,X.clean]
def bP(a:Kp):Nat:=aZ a.obj
structure u0 (x:Kp):Prop where
 Ko:yC x.obj
 aeD:bI x.at_
 aeQ:bI x.seq
def Zj(a b:Kp):decide (a=b)=(decide (a.obj=b.obj) && decide (a.at_=b.at_) && decide (a.seq=b.seq)):=by cases a;cases b;simp[j0]
def cl(a:Wr):Nat:=a.text.length
structure vg (x:Wr):Prop where
 aeD:bI x.at_
 aeS:bS x.text
def Zq(a b:Wr):decide (a=b)=(decide (a.at_=b.at_) && decide (a.text=b.text)):=by cases a;cases b;simp[j0]
def cv(a:bg):Nat:=wL wS a.cells+wL cl a.pending
structure HV (x:bg):Prop where
 aeF:(bL bS) x.cells
 aeN:(bL vg) x.pending
def Zg(a b:bg):decide (a=b)=(decide (a.cells=b.cells) && decide (a.pending=b.pending)):=by cases a;cases b;simp[j0]
structure Bn where
 kind:Int
 a:ag
 b:ag
 t:Int
 deriving DecidableEq
@[simp] def aW(a:Bn):List X:=[.int .i64 a.kind,.str ⟨(a.a).toArray⟩,.str ⟨(a.b).toArray⟩,.int .i64 a.t]
@[simp] def aog(m:Md)(l:List Bn):X.bY m (l.map aW)=l.map aW:=by induction l<;>simp_all[X.bY,X.dZ,X.md]
@[simp] def amx(l:List Bn):X.clean.bH (l.map aW)=true:=by induction l<;>simp_all[X.clean.bH,X.clean.cC,X.clean]
def aV(a:Bn):Nat:=a.a.length+a.b.length
structure sL (x:Bn):Prop where
 Q1:bI x.kind
 QZ:bS x.a
 k_b:bS x.b
 Kr:bI x.t
def Zd(a b:Bn):decide (a=b)=(decide (a.kind=b.kind) && decide (a.a=b.a) && decide (a.b=b.b) && decide (a.t=b.t)):=by cases a;cases b;simp[j0]
structure Sh where
 aP:bg
 av:List Kp
 aU:List Bn
 next:Int
 seq:Int
 deriving DecidableEq
@[simp] def aL(m:Md)(a:Sh):List X:=[.row m 1 ((a.aP.cells).map eS),.row m 2 ((a.aP.pending).map eW),.row m 9 ((a.av).map (aE m)),.row m 4 ((a.aU).map aW),.int .i64 a.next,.int .i64 a.seq]
@[simp] def aot(m m':Md)(l:List Sh):X.bY m (l.map (aL m'))=l.map (aL m):=by induction l<;>simp_all[X.bY,X.dZ,X.md]
@[simp] def amK(l:List Sh):X.clean.bH (l.map (aL .own))=true:=by induction l<;>simp_all[X.clean.bH,X.clean.cC,X.clean]
@[simp] def amW(l:List Sh):X.clean.bH (l.map (aL .sl))=true:=by induction l<;>simp_all[X.clean.bH,X.clean.cC,X.clean]
def cm(a:Sh):Nat:=cv a.aP+wL bP a.av+wL aV a.aU
structure HW (x:Sh):Prop where
 aeH:HV x.aP
 aeL:(bL u0) x.av
 Q0:(bL sL) x.aU
 an3:bI x.next
 aeQ:bI x.seq
def Zp(a b:Sh):decide (a=b)=(decide (a.aP=b.aP) && decide (a.av=b.av) && decide (a.aU=b.aU) && decide (a.next=b.next) && decide (a.seq=b.seq)):=by cases a;cases b;simp[j0]
structure Fl where
 q:Rq
 who:List Int
 old:Ob
 nX:Bool
 deriving DecidableEq
@[simp] def bW(m:Md)(a:Fl):List X:=[.int .i64 a.q.method,.str ⟨(a.q.path).toArray⟩,.row m 2 ((a.q.fields).map aK),.str ⟨(a.q.body).toArray⟩,.row m 1 ((a.who).map eI),.str ⟨(a.old.path).toArray⟩,.row m 1 ((a.old.names).map eS),.row m 1 ((a.old.values).map eS),.int .i64 a.old.resp.status,.row m 2 ((a.old.resp.fields).map aK),.str ⟨(a.old.resp.body).toArray⟩,.int .i64 a.old.t,.bool a.nX]
@[simp] def aoj(m m':Md)(l:List Fl):X.bY m (l.map (bW m'))=l.map (bW m):=by induction l<;>simp_all[X.bY,X.dZ,X.md]
@[simp] def amA(l:List Fl):X.clean.bH (l.map (bW .own))=true:=by induction l<;>simp_all[X.clean.bH,X.clean.cC,X.clean]
@[simp] def amP(l:List Fl):X.clean.bH (l.map (bW .sl))=true:=by induction l<;>simp_all[X.clean.bH,X.clean.cC,X.clean]
def cz(a:Fl):Nat:=cF a.q+wL wO a.who+aZ a.old
structure uZ (x:Fl):Prop where
 wm:vb x.q
 aeV:(bL bI) x.who
 aeM:yC x.old
 an0:bB x.nX
def Zh(a b:Fl):decide (a=b)=(decide (a.q=b.q) && decide (a.who=b.who) && decide (a.old=b.old) && decide (a.nX=b.nX)):=by cases a;cases b;simp[j0]
structure Se where
 q:Rq
 resp:cg
 t:Int
 deriving DecidableEq
@[simp] def dM(m:Md)(a:Se):List X:=[.int .i64 a.q.method,.str ⟨(a.q.path).toArray⟩,.row m 2 ((a.q.fields).map aK),.str ⟨(a.q.body).toArray⟩,.int .i64 a.resp.status,.row m 2 ((a.resp.fields).map aK),.str ⟨(a.resp.body).toArray⟩,.int .i64 a.t]
@[simp] def aos(m m':Md)(l:List Se):X.bY m (l.map (dM m'))=l.map (dM m):=by induction l<;>simp_all[X.bY,X.dZ,X.md]
@[simp] def amJ(l:List Se):X.clean.bH (l.map (dM .own))=true:=by induction l<;>simp_all[X.clean.bH,X.clean.cC,X.clean]
@[simp] def amV(l:List Se):X.clean.bH (l.map (dM .sl))=true:=by induction l<;>simp_all[X.clean.bH,X.clean.cC,X.clean]
def dm(a:Se):Nat:=cF a.q+bC a.resp
structure vf (x:Se):Prop where
 wm:vb x.q
 wo:ve x.resp
 Kr:bI x.t
def Zo(a b:Se):decide (a=b)=(decide (a.q=b.q) && decide (a.resp=b.resp) && decide (a.t=b.t)):=by cases a;cases b;simp[j0]
structure Rp where
 client:Int
 q:Rq
 resp:cg
 kind:Int
 t:Int
 obj:Ob
 aU:Int
 deriving DecidableEq
@[simp] def dL(m:Md)(a:Rp):List X:=[.int .i64 a.client,.int .i64 a.q.method,.str ⟨(a.q.path).toArray⟩,.row m 2 ((a.q.fields).map aK),.str ⟨(a.q.body).toArray⟩,.int .i64 a.resp.status,.row m 2 ((a.resp.fields).map aK),.str ⟨(a.resp.body).toArray⟩,.int .i64 a.kind,.int .i64 a.t,.str ⟨(a.obj.path).toArray⟩,.row m 1 ((a.obj.names).map eS),.row m 1 ((a.obj.values).map eS),.int .i64 a.obj.resp.status,.row m 2 ((a.obj.resp.fields).map aK),.str ⟨(a.obj.resp.body).toArray⟩,.int .i64 a.obj.t,.int .i64 a.aU]
@[simp] def aoo(m m':Md)(l:List Rp):X.bY m (l.map (dL m'))=l.map (dL m):=by induction l<;>simp_all[X.bY,X.dZ,X.md]
@[simp] def amF(l:List Rp):X.clean.bH (l.map (dL .own))=true:=by induction l<;>simp_all[X.clean.bH,X.clean.cC,X.clean]
@[simp] def amS(l:List Rp):X.clean.bH (l.map (dL .sl))=true:=by induction l<;>simp_all[X.clean.bH,X.clean.cC,X.clean]
def dh(a:Rp):Nat:=cF a.q+bC a.resp+aZ a.obj
structure va (x:Rp):Prop where
 aeG:bI x.client
 wm:vb x.q
 wo:ve x.resp
 Q1:bI x.kind
 Kr:bI x.t
 Ko:yC x.obj
 Q0:bI x.aU
def Zl(a b:Rp):decide (a=b)=(decide (a.client=b.client) && decide (a.q=b.q) && decide (a.resp=b.resp) && decide (a.kind=b.kind) && decide (a.t=b.t) && decide (a.obj=b.obj) && decide (a.aU=b.aU)):=by cases a;cases b;simp[j0]
structure Ca where
 aI:Sh
 bO:List Fl
 now:Int
 seen:List Se
 sent:List Rp
 deriving DecidableEq
@[simp] def fo(m:Md)(a:Ca):List X:=[.row m 1 ((a.aI.aP.cells).map eS),.row m 2 ((a.aI.aP.pending).map eW),.row m 9 ((a.aI.av).map (aE m)),.row m 4 ((a.aI.aU).map aW),.int .i64 a.aI.next,.int .i64 a.aI.seq,.row m 13 ((a.bO).map (bW m)),.int .i64 a.now,.row m 8 ((a.seen).map (dM m)),.row m 18 ((a.sent).map (dL m))]
@[simp] def aoh(m m':Md)(l:List Ca):X.bY m (l.map (fo m'))=l.map (fo m):=by induction l<;>simp_all[X.bY,X.dZ,X.md]
@[simp] def amy(l:List Ca):X.clean.bH (l.map (fo .own))=true:=by induction l<;>simp_all[X.clean.bH,X.clean.cC,X.clean]
@[simp] def amN(l:List Ca):X.clean.bH (l.map (fo .sl))=true:=by induction l<;>simp_all[X.clean.bH,X.clean.cC,X.clean]
def dU(a:Ca):Nat:=cm a.aI+wL cz a.bO+wL dm a.seen+wL dh a.sent
structure CY (x:Ca):Prop where
 aeR:HW x.aI
 aeI:(bL uZ) x.bO
 an4:bI x.now
 aeO:(bL vf) x.seen
 aeP:(bL va) x.sent
def Ze(a b:Ca):decide (a=b)=(decide (a.aI=b.aI) && decide (a.bO=b.bO) && decide (a.now=b.now) && decide (a.seen=b.seen) && decide (a.sent=b.sent)):=by cases a;cases b;simp[j0]
structure De where
 kind:Int
 client:Int
 q:Rq
 a:Int
 resp:cg
 qA:Bn
 keep:List Bool
 deriving DecidableEq
@[simp] def Dl(m:Md)(a:De):List X:=[.int .i64 a.kind,.int .i64 a.client,.int .i64 a.q.method,.str ⟨(a.q.path).toArray⟩,.row m 2 ((a.q.fields).map aK),.str ⟨(a.q.body).toArray⟩,.int .i64 a.a,.int .i64 a.resp.status,.row m 2 ((a.resp.fields).map aK),.str ⟨(a.resp.body).toArray⟩,.int .i64 a.qA.kind,.str ⟨(a.qA.a).toArray⟩,.str ⟨(a.qA.b).toArray⟩,.int .i64 a.qA.t,.row m 1 ((a.keep).map eB)]
@[simp] def aoi(m m':Md)(l:List De):X.bY m (l.map (Dl m'))=l.map (Dl m):=by induction l<;>simp_all[X.bY,X.dZ,X.md]
@[simp] def amz(l:List De):X.clean.bH (l.map (Dl .own))=true:=by induction l<;>simp_all[X.clean.bH,X.clean.cC,X.clean]
@[simp] def amO(l:List De):X.clean.bH (l.map (Dl .sl))=true:=by induction l<;>simp_all[X.clean.bH,X.clean.cC,X.clean]
structure bDe (x:De):Prop where
 Q1:bI x.kind
 aeG:bI x.client
 wm:vb x.q
 QZ:bI x.a
 wo:ve x.resp
 anZ:sL x.qA
 an1:(bL bB) x.keep
def OU{ts:List Ty}{l:List X}(h:dI ([.str,.str]++ts) l):∃(a:aJ) (l':List X),l=aK a++l'/\qy a/\dI ts l':=by simp only[dw,eN] at h;obtain⟨y1,r1,rfl,c1,h1⟩:=h.cons;obtain⟨a1,rfl,b1⟩:=lQ c1;obtain⟨y2,r2,rfl,c2,h2⟩:=h1.cons;obtain⟨a2,rfl,b2⟩:=lQ c2;exact⟨⟨a1,a2⟩,r2,by simp,⟨b1,b2⟩,h2⟩
def IY{ts:List Ty}{l:List X}(h:dI ([.int .i64,.row [.str,.str],.str]++ts) l):∃(a:cg) (l':List X),l=iI .sl a++l'/\ve a/\dI ts l':=by
 simp only[dw,eN] at h;obtain⟨y1,r1,rfl,c1,h1⟩:=h.cons;obtain⟨a1,rfl,b1⟩:=iZ c1;obtain⟨y2,r2,rfl,c2,h2⟩:=h1.cons;obtain⟨a2,rfl,b2⟩:=lP aK qy c2 λr hr=>by obtain⟨a,l',rfl,h1,h2⟩:=OU (ts:=[]) (by simpa using hr);obtain rfl:=h2.nil;exact⟨a,by simp,h1⟩
 obtain⟨y3,r3,rfl,c3,h3⟩:=h2.cons;obtain⟨a3,rfl,b3⟩:=lQ c3;exact⟨⟨a1,a2,a3⟩,r3,by simp,⟨b1,b2,b3⟩,h3⟩
def IX{ts:List Ty}{l:List X}(h:dI ([.int .i64,.str,.row [.str,.str],.str]++ts) l):∃(a:Rq) (l':List X),l=ja .sl a++l'/\vb a/\dI ts l':=by
 simp only[dw,eN] at h;obtain⟨y1,r1,rfl,c1,h1⟩:=h.cons;obtain⟨a1,rfl,b1⟩:=iZ c1;obtain⟨y2,r2,rfl,c2,h2⟩:=h1.cons;obtain⟨a2,rfl,b2⟩:=lQ c2;obtain⟨y3,r3,rfl,c3,h3⟩:=h2.cons;obtain⟨a3,rfl,b3⟩:=lP aK qy c3 λr hr=>by obtain⟨a,l',rfl,h1,h2⟩:=OU (ts:=[]) (by simpa using hr);obtain rfl:=h2.nil;exact⟨a,by simp,h1⟩
 obtain⟨y4,r4,rfl,c4,h4⟩:=h3.cons;obtain⟨a4,rfl,b4⟩:=lQ c4;exact⟨⟨a1,a2,a3,a4⟩,r4,by simp,⟨b1,b2,b3,b4⟩,h4⟩
def IW{ts:List Ty}{l:List X}(h:dI ([.str,.row [.str],.row [.str],.int .i64,.row [.str,.str],.str,.int .i64]++ts) l):∃(a:Ob) (l':List X),l=bA .sl a++l'/\yC a/\dI ts l':=by
 simp only[dw,eN] at h;obtain⟨y1,r1,rfl,c1,h1⟩:=h.cons;obtain⟨a1,rfl,b1⟩:=lQ c1;obtain⟨y2,r2,rfl,c2,h2⟩:=h1.cons;obtain⟨a2,rfl,b2⟩:=lP eS bS c2 λr hr=>by obtain⟨x,r',rfl,h1,h2⟩:=hr.cons;obtain rfl:=h2.nil;obtain⟨s,rfl,hs⟩:=lQ h1;exact⟨s,rfl,hs⟩
 obtain⟨y3,r3,rfl,c3,h3⟩:=h2.cons;obtain⟨a3,rfl,b3⟩:=lP eS bS c3 λr hr=>by obtain⟨x,r',rfl,h1,h2⟩:=hr.cons;obtain rfl:=h2.nil;obtain⟨s,rfl,hs⟩:=lQ h1;exact⟨s,rfl,hs⟩
 obtain⟨a4,r4,rfl,b4,h4⟩:=IY (ts:=_) h3;obtain⟨y5,r5,rfl,c5,h5⟩:=h4.cons;obtain⟨a5,rfl,b5⟩:=iZ c5;exact⟨⟨a1,a2,a3,a4,a5⟩,r5,by simp,⟨b1,b2,b3,b4,b5⟩,h5⟩
def Y5{ts:List Ty}{l:List X}(h:dI ([.str,.row [.str],.row [.str],.int .i64,.row [.str,.str],.str,.int .i64,.int .i64,.int .i64]++ts) l):∃(a:Kp) (l':List X),l=aE .sl a++l'/\u0 a/\dI ts l':=by simp only[dw,eN] at h;obtain⟨a1,r1,rfl,b1,h1⟩:=IW (ts:=_) h;obtain⟨y2,r2,rfl,c2,h2⟩:=h1.cons;obtain⟨a2,rfl,b2⟩:=iZ c2;obtain⟨y3,r3,rfl,c3,h3⟩:=h2.cons;obtain⟨a3,rfl,b3⟩:=iZ c3;exact⟨⟨a1,a2,a3⟩,r3,by simp,⟨b1,b2,b3⟩,h3⟩
def Y9{ts:List Ty}{l:List X}(h:dI ([.int .i64,.str]++ts) l):∃(a:Wr) (l':List X),l=eW a++l'/\vg a/\dI ts l':=by simp only[dw,eN] at h;obtain⟨y1,r1,rfl,c1,h1⟩:=h.cons;obtain⟨a1,rfl,b1⟩:=iZ c1;obtain⟨y2,r2,rfl,c2,h2⟩:=h1.cons;obtain⟨a2,rfl,b2⟩:=lQ c2;exact⟨⟨a1,a2⟩,r2,by simp,⟨b1,b2⟩,h2⟩
def Y3{ts:List Ty}{l:List X}(h:dI ([.row [.str],.row [.int .i64,.str]]++ts) l):∃(a:bg) (l':List X),l=bT .sl a++l'/\HV a/\dI ts l':=by
 simp only[dw,eN] at h;obtain⟨y1,r1,rfl,c1,h1⟩:=h.cons;obtain⟨a1,rfl,b1⟩:=lP eS bS c1 λr hr=>by obtain⟨x,r',rfl,h1,h2⟩:=hr.cons;obtain rfl:=h2.nil;obtain⟨s,rfl,hs⟩:=lQ h1;exact⟨s,rfl,hs⟩
 obtain⟨y2,r2,rfl,c2,h2⟩:=h1.cons;obtain⟨a2,rfl,b2⟩:=lP eW vg c2 λr hr=>by obtain⟨a,l',rfl,h1,h2⟩:=Y9 (ts:=[]) (by simpa using hr);obtain rfl:=h2.nil;exact⟨a,by simp,h1⟩
 exact⟨⟨a1,a2⟩,r2,by simp,⟨b1,b2⟩,h2⟩
def Y1{ts:List Ty}{l:List X}(h:dI ([.int .i64,.str,.str,.int .i64]++ts) l):∃(a:Bn) (l':List X),l=aW a++l'/\sL a/\dI ts l':=by simp only[dw,eN] at h;obtain⟨y1,r1,rfl,c1,h1⟩:=h.cons;obtain⟨a1,rfl,b1⟩:=iZ c1;obtain⟨y2,r2,rfl,c2,h2⟩:=h1.cons;obtain⟨a2,rfl,b2⟩:=lQ c2;obtain⟨y3,r3,rfl,c3,h3⟩:=h2.cons;obtain⟨a3,rfl,b3⟩:=lQ c3;obtain⟨y4,r4,rfl,c4,h4⟩:=h3.cons;obtain⟨a4,rfl,b4⟩:=iZ c4;exact⟨⟨a1,a2,a3,a4⟩,r4,by simp,⟨b1,b2,b3,b4⟩,h4⟩
def Y8{ts:List Ty}{l:List X}(h:dI ([.row [.str],.row [.int .i64,.str],.row [.str,.row [.str],.row [.str],.int .i64,.row [.str,.str],.str,.int .i64,.int .i64,.int .i64],.row [.int .i64,.str,.str,.int .i64],.int .i64,.int .i64]++ts) l):∃(a:Sh) (l':List X),l=aL .sl a++l'/\HW a/\dI ts l':=by
 simp only[dw,eN] at h;obtain⟨a1,r1,rfl,b1,h1⟩:=Y3 (ts:=_) h;obtain⟨y2,r2,rfl,c2,h2⟩:=h1.cons;obtain⟨a2,rfl,b2⟩:=lP (aE .sl) u0 c2 λr hr=>by obtain⟨a,l',rfl,h1,h2⟩:=Y5 (ts:=[]) (by simpa using hr);obtain rfl:=h2.nil;exact⟨a,by simp,h1⟩
 obtain⟨y3,r3,rfl,c3,h3⟩:=h2.cons;obtain⟨a3,rfl,b3⟩:=lP aW sL c3 λr hr=>by obtain⟨a,l',rfl,h1,h2⟩:=Y1 (ts:=[]) (by simpa using hr);obtain rfl:=h2.nil;exact⟨a,by simp,h1⟩
 obtain⟨y4,r4,rfl,c4,h4⟩:=h3.cons;obtain⟨a4,rfl,b4⟩:=iZ c4;obtain⟨y5,r5,rfl,c5,h5⟩:=h4.cons;obtain⟨a5,rfl,b5⟩:=iZ c5;exact⟨⟨a1,a2,a3,a4,a5⟩,r5,by simp,⟨b1,b2,b3,b4,b5⟩,h5⟩
def Y4{ts:List Ty}{l:List X}(h:dI ([.int .i64,.str,.row [.str,.str],.str,.row [.int .i64],.str,.row [.str],.row [.str],.int .i64,.row [.str,.str],.str,.int .i64,.bool]++ts) l):∃(a:Fl) (l':List X),l=bW .sl a++l'/\uZ a/\dI ts l':=by
 simp only[dw,eN] at h;obtain⟨a1,r1,rfl,b1,h1⟩:=IX (ts:=_) h;obtain⟨y2,r2,rfl,c2,h2⟩:=h1.cons;obtain⟨a2,rfl,b2⟩:=lP eI bI c2 λr hr=>by obtain⟨x,r',rfl,h1,h2⟩:=hr.cons;obtain rfl:=h2.nil;obtain⟨s,rfl,hs⟩:=iZ h1;exact⟨s,rfl,hs⟩
 obtain⟨a3,r3,rfl,b3,h3⟩:=IW (ts:=_) h2;obtain⟨y4,r4,rfl,c4,h4⟩:=h3.cons;obtain⟨a4,rfl⟩:=Za c4;exact⟨⟨a1,a2,a3,a4⟩,r4,by simp,⟨b1,b2,b3,trivial⟩,h4⟩
def Y7{ts:List Ty}{l:List X}(h:dI ([.int .i64,.str,.row [.str,.str],.str,.int .i64,.row [.str,.str],.str,.int .i64]++ts) l):∃(a:Se) (l':List X),l=dM .sl a++l'/\vf a/\dI ts l':=by simp only[dw,eN] at h;obtain⟨a1,r1,rfl,b1,h1⟩:=IX (ts:=_) h;obtain⟨a2,r2,rfl,b2,h2⟩:=IY (ts:=_) h1;obtain⟨y3,r3,rfl,c3,h3⟩:=h2.cons;obtain⟨a3,rfl,b3⟩:=iZ c3;exact⟨⟨a1,a2,a3⟩,r3,by simp,⟨b1,b2,b3⟩,h3⟩
def Y6{ts:List Ty}{l:List X}(h:dI ([.int .i64,.int .i64,.str,.row [.str,.str],.str,.int .i64,.row [.str,.str],.str,.int .i64,.int .i64,.str,.row [.str],.row [.str],.int .i64,.row [.str,.str],.str,.int .i64,.int .i64]++ts) l):∃(a:Rp) (l':List X),l=dL .sl a++l'/\va a/\dI ts l':=by simp only[dw,eN] at h;obtain⟨y1,r1,rfl,c1,h1⟩:=h.cons;obtain⟨a1,rfl,b1⟩:=iZ c1;obtain⟨a2,r2,rfl,b2,h2⟩:=IX (ts:=_) h1;obtain⟨a3,r3,rfl,b3,h3⟩:=IY (ts:=_) h2;obtain⟨y4,r4,rfl,c4,h4⟩:=h3.cons;obtain⟨a4,rfl,b4⟩:=iZ c4;obtain⟨y5,r5,rfl,c5,h5⟩:=h4.cons;obtain⟨a5,rfl,b5⟩:=iZ c5;obtain⟨a6,r6,rfl,b6,h6⟩:=IW (ts:=_) h5;obtain⟨y7,r7,rfl,c7,h7⟩:=h6.cons;obtain⟨a7,rfl,b7⟩:=iZ c7;exact⟨⟨a1,a2,a3,a4,a5,a6,a7⟩,r7,by simp,⟨b1,b2,b3,b4,b5,b6,b7⟩,h7⟩
def tCa:List Ty:=[.row [.str],.row [.int .i64,.str],.row [.str,.row [.str],.row [.str],.int .i64,.row [.str,.str],.str,.int .i64,.int .i64,.int .i64],.row [.int .i64,.str,.str,.int .i64],.int .i64,.int .i64,.row [.int .i64,.str,.row [.str,.str],.str,.row [.int .i64],.str,.row [.str],.row [.str],.int .i64,.row [.str,.str],.str,.int .i64,.bool],.int .i64,.row [.int .i64,.str,.row [.str,.str],.str,.int .i64,.row [.str,.str],.str,.int .i64],.row [.int .i64,.int .i64,.str,.row [.str,.str],.str,.int .i64,.row [.str,.str],.str,.int .i64,.int .i64,.str,.row [.str],.row [.str],.int .i64,.row [.str,.str],.str,.int .i64,.int .i64]]
def Y2{ts:List Ty}{l:List X}(h:dI ([.row [.str],.row [.int .i64,.str],.row [.str,.row [.str],.row [.str],.int .i64,.row [.str,.str],.str,.int .i64,.int .i64,.int .i64],.row [.int .i64,.str,.str,.int .i64],.int .i64,.int .i64,.row [.int .i64,.str,.row [.str,.str],.str,.row [.int .i64],.str,.row [.str],.row [.str],.int .i64,.row [.str,.str],.str,.int .i64,.bool],.int .i64,.row [.int .i64,.str,.row [.str,.str],.str,.int .i64,.row [.str,.str],.str,.int .i64],.row [.int .i64,.int .i64,.str,.row [.str,.str],.str,.int .i64,.row [.str,.str],.str,.int .i64,.int .i64,.str,.row [.str],.row [.str],.int .i64,.row [.str,.str],.str,.int .i64,.int .i64]]++ts) l):∃(a:Ca) (l':List X),l=fo .sl a++l'/\CY a/\dI ts l':=by
 simp only[dw,eN] at h;obtain⟨a1,r1,rfl,b1,h1⟩:=Y8 (ts:=_) h;obtain⟨y2,r2,rfl,c2,h2⟩:=h1.cons;obtain⟨a2,rfl,b2⟩:=lP (bW .sl) uZ c2 λr hr=>by obtain⟨a,l',rfl,h1,h2⟩:=Y4 (ts:=[]) (by simpa using hr);obtain rfl:=h2.nil;exact⟨a,by simp,h1⟩
 obtain⟨y3,r3,rfl,c3,h3⟩:=h2.cons;obtain⟨a3,rfl,b3⟩:=iZ c3;obtain⟨y4,r4,rfl,c4,h4⟩:=h3.cons;obtain⟨a4,rfl,b4⟩:=lP (dM .sl) vf c4 λr hr=>by obtain⟨a,l',rfl,h1,h2⟩:=Y7 (ts:=[]) (by simpa using hr);obtain rfl:=h2.nil;exact⟨a,by simp,h1⟩
 obtain⟨y5,r5,rfl,c5,h5⟩:=h4.cons;obtain⟨a5,rfl,b5⟩:=lP (dL .sl) va c5 λr hr=>by obtain⟨a,l',rfl,h1,h2⟩:=Y6 (ts:=[]) (by simpa using hr);obtain rfl:=h2.nil;exact⟨a,by simp,h1⟩
 exact⟨⟨a1,a2,a3,a4,a5⟩,r5,by simp,⟨b1,b2,b3,b4,b5⟩,h5⟩
def am0{x:X}(h:qo (.agg tCa) x):∃a,x=.agg (fo .sl a)/\CY a:=by obtain⟨l,rfl,hl⟩:=Y0 h;obtain⟨a,l',rfl,h1,h2⟩:=Y2 (ts:=[]) (l:=l) (by rw[lH];exact hl);obtain rfl:=h2.nil;exact⟨a,by simp,h1⟩
end M
namespace M
open Go
def cU{β:Type}(p:β->Bool):Nat->List β->Option (Nat×β)
 |_,[]=>none
 |i,b::l=>if p b=true then some (i,b) else cU p (i+1) l
def qR{β:Type}{p:β->Bool}:∀{l:List β} {k i:Nat} {b:β},cU p k l=some (i,b)->k<=i/\l[i - k]?=some b/\p b=true
 |b'::l,k,i,b,h=>by
  unfold cU at h;split at h;·rename_i hp;cases h;exact⟨e7 _,by simp,hp⟩
  ·obtain⟨h1,h2,h3⟩:=qR h;refine⟨by omega,?_,h3⟩;rw[show i - k=(i - (k+1))+1 by omega,HG];exact h2
def Dw{β:Type}{p:β->Bool}:∀{l:List β} {k:Nat},cU p k l=none↔∀b∈l,¬p b=true
 |[],k=>by simp[cU]
 |b'::l,k=>by
  unfold cU;by_cases hp:p b'=true;·simp[hp]
  ·rw[aD hp,Dw];simp[hp]
def rI{xt:Nat}{β:Type}{f:ah->cB}(l:List β)(st:Nat->ah)(p:β->Bool)(R:Nat->β->ah)(E:ah)
  (h:∀i b,l[i]?=some b->i<l.length->f (st i)=if p b=true then some (.ret,R i b) else some (.normal,st (i+1)))
  (hend:f (st l.length)=some (.exit xt,E)):
  aG f (st 0)=(cU p 0 l).elim (some (.exit xt,E)) λx=>some (.ret,R x.1 x.2):=by
 suffices H:∀(r:List β) (i:Nat),l.drop i=r->i<=l.length->aG f (st i)=(cU p i r).elim (some (.exit xt,E)) λx=>some (.ret,R x.1 x.2) from H l 0 rfl (sB _)
 intro r;induction r with
 |nil=>
  intro i hr hi;have:i=l.length:=by have:=dr List.length hr;simp at this;omega
  subst this;rw[dY,hend];rfl
 |cons b r ih=>
  intro i hr hi;have hb:l[i]?=some b:=by have:=dr (λt:List β=>t[0]?) hr;simpa using this
  have hlt:i<l.length:=(aF.1 hb).1;have hd:l.drop (i+1)=r:=by have:=dr List.tail hr;simpa using this
  rw[dY,h i b hb hlt];unfold cU;by_cases hp:p b=true;·simp[hp,lv]
  ·simp only[hp];exact ih (i+1) hd hlt
def FC{xt:Nat}{β γ:Type}{f:ah->cB}(l:List β)(φ:β->List γ)(st:Nat->List γ->ah)(E:List γ->ah)
  (h:∀i b out,l[i]?=some b->i<l.length->out=(l.take i).flatMap φ->f (st i out)=some (.normal,st (i+1) (out++φ b)))
  (hend:∀out,out=l.flatMap φ->f (st l.length out)=some (.exit xt,E out)):
  aG f (st 0 [])=some (.exit xt,E (l.flatMap φ)):=by
 suffices H:∀(k i:Nat),i+k=l.length->aG f (st i ((l.take i).flatMap φ))=some (.exit xt,E (l.flatMap φ)) from H l.length 0 (by omega)
 intro k;induction k with
 |zero=>
  intro i hi;obtain rfl:i=l.length:=by omega
  rw[uH,dY,hend _ rfl];rfl
 |succ k ih=>
  intro i hi;have hlt:i<l.length:=by omega
  rw[dY,h i l[i] _ (cw hlt) hlt rfl];have:(l.take i).flatMap φ++φ l[i]=(l.take (i+1)).flatMap φ:=by rw[oI hlt,Nc];simp
  simp only[this];exact ih (i+1) (by omega)
def Ji{β γ:Type}(g:β->γ)(l:List β):l.flatMap (λb=>[g b])=l.map g:=by induction l<;>simp_all
def PA{β γ:Type}(g:β->γ)(l:List β)(i:Nat)(h:i<=l.length):((l.take i).flatMap (λb=>[g b])).length=i:=by rw[Ji];simp;omega
end M
namespace M
open Go
def nk(b:UInt8):UInt8:=if 65<=b.toNat/\b.toNat<=90 then b+32 else b
def ct(s:ag):ag:=s.map nk
def sj(b:UInt8):Bool:=decide ((97<=b.toNat/\b.toNat<=122)\/(48<=b.toNat/\b.toNat<=57)\/b.toNat=45)
def eC(s:ag):Bool:=aM sj s && decide (1<=(s.length:Int)/\(s.length:Int)<=20)
def iU(lo:Nat)(b:UInt8):Bool:=decide (lo<=b.toNat/\b.toNat<=126)
def gi(s:ag):ag:=Lib.trimB s 32
def fR(s:ag):Bool:=aM (iU 32) s && decide (1<=(s.length:Int)/\(s.length:Int)<=60) && decide (gi s=s)
def eM(n:Int):ag:=if 0<=n/\n<=1000000 then aX n.toNat else []
def ic(b:UInt8):Bool:=decide (48<=b.toNat/\b.toNat<=57)
def lC(s:ag):Nat:=s.foldl (λx b=>10*x+b.toNat - 48) 0
def bq(s:ag):Option Nat:=if lC s<=1000000/\aX (lC s)=s then some (lC s) else none
def gV(s:ag):Bool:=aM (iU 33) s && decide (1<=(s.length:Int)/\(s.length:Int)<=60) && decide (s[0]?.map (λb:UInt8=>(b.toNat:Int))=some 47)
def I6{α:Type}(p:α->Bool):∀(a b:List α),(∃x∈a,p x=false)->(a++b).dropWhile p=a.dropWhile p++b
 |[],b,h=>by simp at h
 |x::a,b,h=>by
  simp only[dw,yd];by_cases hx:p x=true
  ·simp only[hx,cG];refine I6 p a b ?_;obtain⟨y,hy,hp⟩:=h;rcases bZ.1 hy with rfl|hy;·rw[hx] at hp;cases hp
   ·exact⟨y,hy,hp⟩
  ·simp[hx]
def I5{α:Type}(p:α->Bool):∀(a:List α),(∀x∈a,p x=true)->a.dropWhile p=[]
 |[],_=>rfl
 |x::a,h=>by rw[yd,ay (h x (bF ..))];exact I5 p a λy hy=>h y (b8 _ hy)
def I7{α:Type}(p:α->Bool):∀{a:List α} {x:α},x∈a->p x=false->x∈a.dropWhile p
 |y::a,x,h,hp=>by
  rw[yd];by_cases hy:p y=true
  ·rw[ay hy];rcases bZ.1 h with rfl|h;·rw[hy] at hp;cases hp
   ·exact I7 p h hp
  ·rw[aD hy];exact h
def O5{α:Type}(p:α->Bool)(l:List α):∃a,l=a++l.dropWhile p/\∀x∈a,p x=true:=by refine⟨l.takeWhile p,(List.takeWhile_append_dropWhile).symm,λx hx=>?_⟩;have:=List.all_takeWhile (l:=l) (p:=p);exact oK.1 this x hx
def alp(p:UInt8->Bool)(l:List UInt8):(l.reverse.dropWhile p).reverse.dropWhile p=((l.dropWhile p).reverse.dropWhile p).reverse:=by
 by_cases h:∃x∈l,p x=false
 ·obtain⟨x,hx,hp⟩:=h;obtain⟨a,e1,h1⟩:=O5 p l;have hm:x∈l.dropWhile p:=I7 p hx hp
  have e2:l.reverse.dropWhile p=(l.dropWhile p).reverse.dropWhile p++a.reverse:=by
   conv=>lhs;rw[e1,MT]
   exact I6 p _ _ ⟨x,by simpa using hm,hp⟩
  rw[e2,MT,TW];obtain⟨b,e3,h3⟩:=O5 p (l.dropWhile p).reverse;generalize hd:(l.dropWhile p).reverse.dropWhile p=d at e3⊢;have adN:∃y∈d,p y=false:=⟨x,by rw[<-hd];exact I7 p (by simpa using hm) hp,hp⟩;have e4:l.dropWhile p=d.reverse++b.reverse:=by have:=dr List.reverse e3;simpa using this
  have e5:(a++d.reverse).dropWhile p=d.reverse.dropWhile p:=by
   clear e1 e2 e3 hm;induction a with
   |nil=>rfl
   |cons y a ih=>rw[dw,yd,ay (h1 y (bF ..))];exact ih λz hz=>h1 z (b8 _ hz)
  rw[e5]
  have e6:(l.dropWhile p).dropWhile p=l.dropWhile p:=by
   have:∀l:List UInt8,(l.dropWhile p).dropWhile p=l.dropWhile p:=by
    intro l;induction l with
    |nil=>rfl
    |cons y l ih=>
     rw[yd];by_cases hy:p y=true;·rw[ay hy];exact ih
     ·rw[aD hy,yd,aD hy]
   exact this l
  rw[e4] at e6;rw[I6 p d.reverse b.reverse (by obtain⟨y,hy,hp⟩:=adN;exact⟨y,by simpa using hy,hp⟩)] at e6;exact List.append_cancel_right e6
 ·have h1:∀x∈l,p x=true:=λx hx=>by
   cases hp:p x with
   |true=>rfl
   |false=>exact absurd ⟨x,hx,hp⟩ h
  rw[I5 p l h1,I5 p l.reverse (λx hx=>h1 x (by simpa using hx))];rfl
def alo(s:ag):gi s=Lib.trimRightB (Lib.trimLeftB s 32) 32:=alp _ s
def Tc(s:ag):(gi s).length<=s.length:=by unfold gi Lib.trimB Lib.trimLeftB Lib.trimRightB;have h1:=(Ua (l:=(List.dropWhile (λx=>x==32) s.reverse).reverse) (λx=>x==(32:UInt8))).length_le;have h2:=(Ua (l:=s.reverse) (λx=>x==(32:UInt8))).length_le;simp only[HI] at h1 h2;omega
def adf{α β:Type}(f:β->α->β)(l:List α)(a:α)(b:β):(l++[a]).foldl f b=f (l.foldl f b) a:=by simp
def I2(n:Nat):aX n≠[]:=by intro h;have:(aX n).length=Lib.nDigits n:=Lib.decDigits_length n;rw[h] at this;have h2:=Lib.nDigits_pos n;rw[<-this] at h2;simp at h2
def I4(n:Nat)(h:¬n<10):aX n=aX (n / 10)++[UInt8.ofNat (48+n%10)]:=by unfold aX;rw[Lib.decDigits,uM h]
def I3(n:Nat)(h:n<10):aX n=[UInt8.ofNat (48+n)]:=by unfold aX;rw[Lib.decDigits,nN h]
def vA(k:Nat)(h:k<10):(UInt8.ofNat (48+k)).toNat=48+k:=by rw[M1];omega
def Tj:∀n:Nat,lC (aX n)=n:=by
 intro n;induction n using Nat.strongRecOn with
 |ind n ih=>
  by_cases h:n<10;·rw[I3 n h];simp only[lC,qm,List.foldl_nil,vA n h];omega
  ·rw[I4 n h];have:=ih (n / 10) (by omega);unfold lC at this⊢;rw[adf,this,vA _ (by omega)];omega
def I1:∀n:Nat,aM ic (aX n)=true:=by
 intro n;induction n using Nat.strongRecOn with
 |ind n ih=>
  rw[iX];by_cases h:n<10;·rw[I3 n h];intro x hx;rw[fy.1 hx];unfold ic;rw[vA n h];simp;omega
  ·rw[I4 n h];intro x hx;rcases gG.1 hx with hx|hx;·exact iX.1 (ih _ (by omega)) x hx
   ·rw[fy.1 hx];unfold ic;rw[vA _ (by omega)];simp;omega
def mc{s:ag}{n:Nat}:bq s=some n↔n<=1000000/\aX n=s:=by
 unfold bq;constructor
 ·intro h;split at h;·rename_i hc;cases h;exact hc
  ·cases h
 ·rintro ⟨h1,rfl⟩;rw[Tj,ay ⟨h1,rfl⟩]
def sZ(n:Nat)(h:n<=1000000):(aX n).length<=7:=qL 6 n (by omega)
def FR(n:Nat)(h:n<=1000000):eM (n:Int)=aX n:=by unfold eM;rw[ay (by omega)];rfl
def RC(n:Nat)(h:n<=1000000):bq (eM n)=some n:=mc.2 ⟨h,(FR n h).symm⟩
def afM(s:ag)(h:s.length<=7):bq s=if s≠[]/\aM ic s=true/\eM (lC s)=s then some (lC s) else none:=by
 cases hr:bq s with
 |some n=>obtain⟨h1,rfl⟩:=mc.1 hr;rw[Tj,ay ⟨I2 n,I1 n,FR n h1⟩]
 |none=>
  rw[aD];rintro ⟨h1,h2,h3⟩
  have:bq s=some (lC s):=by
   refine mc.2 ?_;unfold eM at h3;split at h3;·rename_i hc;exact⟨by omega,h3⟩
   ·exact absurd h3.symm h1
  rw[this] at hr;cases hr
def agL:∀(n acc:Nat) (l:List UInt8),acc*10^Lib.nDigits n+n<10000000000->Lib.parseUint10 acc (aX n++l)=Lib.parseUint10 (acc*10^Lib.nDigits n+n) l:=by
 intro n;induction n using Nat.strongRecOn with
 |ind n ih=>
  intro acc l hn;by_cases h:n<10;·rw[I3 n h];simp only[dw,eN,Lib.parseUint10,vA n h];rw[Lib.nDigits_small h] at hn⊢;rw[ay (by omega),aD (by omega),aD (by omega)];congr 1;omega
  ·rw[I4 n h,mE];have e:=Lib.nDigits_big h;rw[e,Hx] at hn⊢;have hm:acc*(10^Lib.nDigits (n / 10)*10)=acc*10^Lib.nDigits (n / 10)*10:=by rw[Nat.mul_assoc]
   rw[hm] at hn⊢;rw[ih (n / 10) (by omega) acc _ (by omega)];have hd:=vA (n%10) (by omega);simp only[dw,eN,Lib.parseUint10,hd];rw[ay (by omega),aD (by omega),aD (by omega)];congr 1;omega
def NM(n:Nat)(h:n<=1000000):Lib.atoiAll (aX n)=.ok (n:Int):=by
 cases hd:aX n with
 |nil=>exact absurd hd (I2 n)
 |cons c r=>have hc:=iX.1 (I1 n) c (by rw[hd];exact bF ..);simp only[ic,bz] at hc;rw[Lib.atoiAll_plain c r (by omega) (by omega),<-hd];unfold Lib.parseMag;rw[aD (I2 n)];have:=agL n 0 [] (by omega);rw[lH] at this;rw[this];simp only[Lib.parseUint10,Lib.signless];rw[aD (by omega)];simp
def afL(s:ag)(n:Int)(h:Lib.atoiAll s=.ok n):(if 0<=n/\n<=1000000/\Lib.itoa n=s then some n.toNat else none)=bq s:=by
 split;·rename_i hc;symm;refine mc.2 ⟨by omega,?_⟩;rw[<-Kl,<-hc.2.2];congr 1;omega
 ·rename_i hc;cases hr:bq s with
  |none=>rfl
  |some m=>
   obtain⟨h1,rfl⟩:=mc.1 hr;rw[NM m h1] at h;obtain rfl:(m:Int)=n:=by injection h
   exact absurd ⟨by omega,by omega,Kl m⟩ hc
def afN(s:ag)(h:∀n,Lib.atoiAll s≠.ok n):bq s=none:=by
 cases hr:bq s with
 |none=>rfl
 |some m=>obtain⟨h1,rfl⟩:=mc.1 hr;exact absurd (NM m h1) (h m)
def RB(s:ag)(h:7<s.length):bq s=none:=by
 cases hr:bq s with
 |none=>rfl
 |some m=>obtain⟨h1,rfl⟩:=mc.1 hr;have:=sZ m h1;omega
def bu(c:UInt8):ag->List ag
 |[]=>[[]]
 |b::s=>if b=c then []::bu c s else match bu c s with
  |w::ws=>(b::w)::ws
  |[]=>[[b]]
def xL(c:UInt8)(s:ag):bu c s≠[]:=by
 cases s with
 |nil=>simp[bu]
 |cons b s=>
  unfold bu;split;·simp
  ·split<;>simp
def iA(s:ag):List ag:=((bu 44 s).map gi).filter λw=>decide (w≠[])
end M
namespace M
open Go Go.RowKit
def qq(w w':World)(c:C):Prop:=(∀Z,c.ok w' Z)/\c.bare/\∀b k,c.fp b k->w.heap.size<=b
def V9[Bs]{P:Program}{f:FuncId}{xs:List X}{r:X}
  (h:∀w zl zb cs,cs.map C.er=xs->qn w zl zb cs->nQ w->Calls P f (cs.map C.val).toArray w λe w'=>∃c:C,e=.returned c.val/\c.er=r/\Below w.heap.size w w'/\qq w w' c):
  AC P f xs λr' ps=>r'=r/\ps=xs.map λ_=>.dead:=by
 intro w zl zb cs e hA lX;refine(h w zl zb cs e hA λb hb=>(lX b hb).1).mono λe' w' ⟨c,he,hc,hb,c1,c2,c3⟩=>?_;have JF:Ext (λb k=>∃x∈cs,x.fp b k) w w':=⟨hb.os,hb.tape,hb.output,hb.size,λb hl=>.inl (hb.block b hl)⟩;refine⟨c,cs.map λx=>.dead x.val,zl,⟨he,by rw[cK];rfl,JF,⟨λx hx'=>?_,λx hx'=>?_,λx hx' b k hf=>?_,λb k hz=>kG (hA.cE b k (hz.imp id λh=>h.elim)) hb.size,?_⟩,λx hx' b k hf=>?_,λ_ _ h=>h,λ_ _ h=>.inl h⟩,hc,?_⟩
 ·rcases bZ.1 hx' with rfl|hx';·exact c1 _
  ·obtain⟨y,_,rfl⟩:=bp.1 hx';trivial
 ·rcases bZ.1 hx' with rfl|hx';·exact c2
  ·obtain⟨y,_,rfl⟩:=bp.1 hx';trivial
 ·rcases bZ.1 hx' with rfl|hx';·have h1:=c3 b k hf;exact⟨λhz=>by have:=hA.cE b k (.inl hz);omega,λhz=>hz⟩
  ·obtain⟨y,_,rfl⟩:=bp.1 hx';exact hf.elim
 ·refine fA.2 ⟨λx hx b k hf hf'=>?_,?_⟩;·obtain⟨y,_,rfl⟩:=bp.1 hx;exact hf'
  ·refine uG.2 λi j hi hj _ b k hf=>?_;obtain⟨y,_,hy⟩:=bp.1 (bx hi);rw[<-hy] at hf;exact hf.elim
 ·rcases bZ.1 hx' with rfl|hx';·exact .inr (c3 b k hf)
  ·obtain⟨y,_,rfl⟩:=bp.1 hx';exact hf.elim
 ·rw[<-e];simp[cK,kJ,C.er]
def eX(f0:FuncId)(g:List X->Option X):cx:=λf xs=>if f=f0 then (match g xs with
 |some r=>some (r,xs.map λ_=>.dead)
 |none=>none) else none
def tW[Bs]{P:Program}{f0:FuncId}{g:List X->Option X}
  (h:∀xs r,g xs=some r->∀w zl zb cs,cs.map C.er=xs->qn w zl zb cs->nQ w->Calls P f0 (cs.map C.val).toArray w λe w'=>∃c:C,e=.returned c.val/\c.er=r/\Below w.heap.size w w'/\qq w w' c):(eX f0 g).Sound P:=λf xs o e=>by
 unfold eX at e;split at e
 ·rename_i hf;subst hf;split at e;·rename_i r hr;cases e;exact V9 (h xs r hr)
  ·cases e
 ·cases e
def yR{c:C}{s:ByteArray}(h:c.er=.str s):c=.str s:=by cases c<;>simp[C.er] at h;rw[h]
def map_nil{l:List C}(h:l.map C.er=[]):l=[]:=by simpa using h
def map_cons{l:List C}{x:X}{xs:List X}(h:l.map C.er=x::xs):∃c cs,l=c::cs/\c.er=x/\cs.map C.er=xs:=by
 cases l with
 |nil=>simp at h
 |cons c cs=>simp at h;exact⟨c,cs,rfl,h.1,h.2⟩
def yV{w w':World}{s:ByteArray}(h:s.size<=9223372036854775807):qq w w' (.str s):=⟨λ_=>h,trivial,λ_ _ h=>h.elim⟩
def adg{w w':World}{k:IntKind}{n:Int}:qq w w' (.int k n):=⟨λ_=>trivial,trivial,λ_ _ h=>h.elim⟩
def DB{w w':World}{b:Bool}:qq w w' (.bool b):=⟨λ_=>trivial,trivial,λ_ _ h=>h.elim⟩
def xQ(l:List C):C:=.au l.length λj=>l.getD j (.dead undef)
def Lh{α β:Type}(l:List α)(d:α)(g:α->β):((List.range l.length).map λj=>g (l.getD j d))=l.map g:=by
 apply List.ext_getElem;·simp
 ·intro i h1 h2;simp at h1;simp[h1]
def Mp(l:List C):(xQ l).er=.au (l.map C.er):=by show X.au _=_;rw[Lh l _ C.er]
def Mq(l:List C):(xQ l).val=.tuple (l.map C.val).toArray:=by show Value.tuple _=_;rw[Lh l _ C.val]
def Jp{w w':World}{l:List C}(h:∀c∈l,qq w w' c/\c.fY/\∀b k,¬c.fp b k):qq w w' (xQ l):=by
 have hm:∀j,j<l.length->l.getD j (.dead undef)∈l:=λj hj=>by simp[List.getD,hj]
 refine⟨λZ=>⟨λj hj=>⟨(h _ (hm j hj)).2.1,(h _ (hm j hj)).1.1 Z⟩,λj hj b k hf=>((h _ (hm j hj)).2.2 b k hf).elim⟩,λj hj=>(h _ (hm j hj)).1.2.1,λb k hf=>?_⟩;obtain⟨j,hj,hf⟩:=hf;exact((h _ (hm j hj)).2.2 b k hf).elim
def adh{w w':World}{g:Nat}{t:TypeId}{l:List ByteArray}(hg:w.heap.size<=g)(hb:w'.heap[g]?=some (.cells (l.map Value.string).toArray t (0,0)))(hs:∀s∈l,s.size<=9223372036854775807):
  qq w w' (.row .own 1 (some (g,0,none)) l.length l.length λi _=>.str (l.getD i ByteArray.empty)):=by
 have hm:∀j,j<l.length->l.getD j ByteArray.empty∈l:=λj hj=>by simp[List.getD,hj]
 refine⟨λZ=>⟨e7 _,λi j hi hj=>⟨g,0,rfl,?_,λh=>absurd rfl h⟩,λi j hi hj=>⟨trivial,trivial,trivial,hs _ (hm i hi)⟩,λ_=>.inr ⟨g,0,_,t,(0,0),rfl,hb,?_,λk _ _=>?_⟩,λi j hi hj b k hf=>hf.elim⟩,trivial,λb k hf=>?_⟩
 ·obtain rfl:j=0:=by omega
  simp only[World.cell?,hb];simp[C.val,hi,Go.Value.oneCell']
 ·simp
 ·simp[World.frozen?,hb]
 ·obtain⟨_,h|⟨i,j,_,_,h⟩⟩:=hf;·obtain⟨o,h⟩:=h;have hgb:=dr Prod.fst (gZ h);have hgb:g=b:=hgb;exact hgb▸hg
  ·exact h.elim
def ag9(l:List ByteArray)(g cap:Nat):(C.row .own 1 (some (g,0,none)) l.length cap λi _=>.str (l.getD i ByteArray.empty)).er=.row .own 1 (l.map λs=>[.str s]):=by show X.row _ _ _=_;congr 1;have:=Lh l ByteArray.empty λs=>[X.str s];rw[<-this];rfl
def Zx{c:C}{m:Md}{z:Nat}{xs:List (List X)}(h:c.er=.row m z xs):∃A len cap e,c=.row m z A len cap e/\len=xs.length/\∀i,i<len->xs[i]?=some ((List.range z).map λj=>(e i j).er):=by
 cases c with
 |row m' z' A len cap e=>simp only[C.er,X.row.injEq] at h;obtain⟨rfl,rfl,h⟩:=h;refine⟨A,len,cap,e,rfl,by rw[<-h];simp,λi hi=>?_⟩;rw[<-h];simp[hi]
 |_=>simp[C.er] at h
end M
namespace M
open Go
def qb(s:ag):X:=.str ⟨s.toArray⟩
def F4(l:List ag):X:=.row .own 1 (l.map eS)
def G0:List X->Option X
 |[.str s,.str c]=>if c.data.toList=[32]/\s.size<=9223372036854775807 then some (qb (gi s.data.toList)) else none
 |_=>none
def B8:List X->Option X
 |[.str s,.str c]=>if s.size<4294967281/\1<=c.size then some (F4 (Lib.split s.data.toList c.data.toList)) else none
 |_=>none
def Df:List X->Option X
 |[.str s,.str c]=>if s.size<4294967281 then some (.au [qb (Lib.cut s.data.toList c.data.toList).1,qb (Lib.cut s.data.toList c.data.toList).2.1,.bool (Lib.cut s.data.toList c.data.toList).2.2]) else none
 |_=>none
def DO:List X->Option X
 |[.str s,.str c]=>some (.bool (Lib.hasPrefix s.data.toList c.data.toList))
 |_=>none
def Dg:List X->Option X
 |[.str s,.str c]=>if s.size<=9223372036854775807 then some (.au [qb (Lib.trimPrefix s.data.toList c.data.toList),.bool (Lib.hasPrefix s.data.toList c.data.toList)]) else none
 |_=>none
def FP:List X->Option X
 |[.str s]=>if s.size<=9223372036854775807 then some (match bq s.data.toList with
  |some n=>.au [.int .i64 n,.bool true]
  |none=>.au [.int .i64 0,.bool false]) else none
 |_=>none
def qQ(f:aJ):ag:=f.name++[58,32]++f.value++[13,10]
def jb(l:List aJ):ag:=l.flatMap qQ
def qT:List (List X)->Option (List aJ)
 |[]=>some []
 |[.str a,.str b]::r=>(qT r).map λl=>⟨a.data.toList,b.data.toList⟩::l
 |_=>none
def Dt:List X->Option X
 |[.row .af 2 rows]=>(match qT rows with
  |some l=>if (jb l).length<=140737488355328/\l.length<=140737488355328 then some (qb (jb l)) else none
  |none=>none)
 |_=>none
def PE:∀l:List aJ,qT (l.map aK)=some l
 |[]=>rfl
 |f::l=>by simp[qT,PE l]
def count_nil(c:UInt8):Lib.count [] [c]=0:=by rw[Lib.count_one];rfl
def ahC(c:UInt8):∀s:ag,Lib.split s [c]=bu c s:=by
 have key:∀(n:Nat) (s:ag),s.length<=n->Lib.splitK [c] 0 (Lib.count s [c]) s=bu c s:=by
  intro n;induction n with
  |zero=>intro s hs;obtain rfl:s=[]:=Nn.1 (by omega);rw[count_nil];rfl
  |succ n ih=>
   intro s hs;cases s with
   |nil=>rw[count_nil];rfl
   |cons b s=>
    simp at hs;have ER:=ih s (by omega);by_cases hb:b=c;·subst hb;rw[Lib.count_cons_eq,qi];have hi:Lib.index (b::s) [b]=0:=Lib.index_first (i:=0) (sB _) (by simp[Lib.occAt]) (λ_ h=>absurd h (Nat.not_lt_zero _));simp only[Lib.splitK,hi,bu];simp[ER]
    ·rw[Lib.count_cons_ne _ _ _ hb]
     have hnext:Lib.index (b::s) [c]=if Lib.index s [c]=-1 then -1 else Lib.index s [c]+1:=by
      have h:=Lib.index_drop (s:=b::s) (sub:=[c]) (i:=1) (λj hj=>by
       obtain rfl:j=0:=by omega
       simp[Lib.occAt,List.isPrefixOf,uK hb]) (by simp)
      simp at h;exact h
     rw[bu,aD hb,<-ER];cases hk:Lib.count s [c] with
     |zero=>simp[Lib.splitK]
     |succ k=>
      simp only[Lib.splitK,hnext];by_cases h1:Lib.index s [c]=-1;·simp[h1]
      ·have h0:0<=Lib.index s [c]:=by have:-1<=Lib.index s [c]:=Lib.index_ge _ _;omega
       have h2:¬Lib.index s [c]+1=-1:=by omega
       have h3:(Lib.index s [c]+1).toNat=(Lib.index s [c]).toNat+1:=by omega
       simp[h1,h2,h3]
 intro s;exact key s.length s (e7 _)
def cH(c:UInt8):ag->Option (ag×ag)
 |[]=>none
 |b::s=>if b=c then some ([],s) else (cH c s).map λp=>(b::p.1,p.2)
def aew(b c:UInt8)(s:ag):Lib.index (b::s) [c]=if b=c then 0 else if Lib.index s [c]=-1 then -1 else Lib.index s [c]+1:=by
 by_cases hb:b=c;·subst hb;rw[ay rfl];exact Lib.index_first (i:=0) (sB _) (by simp[Lib.occAt]) (λ_ h=>absurd h (Nat.not_lt_zero _))
 ·rw[aD hb]
  have h:=Lib.index_drop (s:=b::s) (sub:=[c]) (i:=1) (λj hj=>by
   obtain rfl:j=0:=by omega
   simp[Lib.occAt,List.isPrefixOf,uK hb]) (by simp)
  simp at h;exact h
def Di(c:UInt8):∀s:ag,Lib.cut s [c]=match cH c s with
  |some p=>(p.1,p.2,true)
  |none=>(s,[],false)
 |[]=>rfl
 |b::s=>by
  have ih:=Di c s;have h0:-1<=Lib.index s [c]:=Lib.index_ge _ _;unfold Lib.cut at ih⊢;rw[aew,cH];by_cases hb:b=c;·simp[hb]
  ·simp only[hb,cT];by_cases h1:Lib.index s [c]=-1
   ·rw[h1] at ih;simp only[h1];cases hc:cH c s with
    |none=>simp
    |some p=>rw[hc] at ih;simp at ih
   ·have h2:0<=Lib.index s [c]:=by omega
    rw[ay h2] at ih;rw[aD h1,ay (by omega)];have h3:(Lib.index s [c]+1).toNat=(Lib.index s [c]).toNat+1:=by omega
    cases hc:cH c s with
    |none=>rw[hc] at ih;simp at ih
    |some p=>rw[hc] at ih;simp at ih;simp[h3,<-ih.1,<-ih.2]
end M
namespace M
open Go
def eE{β:Type}(p:β->Bool)(l:List β):Nat:=(l.takeWhile λb=> !p b).length
def Rm{β:Type}{f:ah->cB}(l:List β)(st:Nat->ah)(p:β->Bool)(E:Nat->ah){x:Nat}
  (h:∀i b,l[i]?=some b->i<l.length->f (st i)=if p b=true then some (.exit x,E i) else some (.normal,st (i+1)))
  (hend:f (st l.length)=some (.exit x,E l.length)):aG f (st 0)=some (.exit x,E (eE p l)):=by
 suffices H:∀(r:List β) (i:Nat),l.drop i=r->i<=l.length->aG f (st i)=some (.exit x,E (i+eE p r)) by have:=H l 0 rfl (sB _);rwa [nM] at this
 intro r;induction r with
 |nil=>
  intro i hr hi;have:i=l.length:=by have:=dr List.length hr;simp at this;omega
  subst this;rw[dY,hend];rfl
 |cons b r ih=>
  intro i hr hi;have hb:l[i]?=some b:=by have:=dr (λt:List β=>t[0]?) hr;simpa using this
  have hlt:i<l.length:=(aF.1 hb).1;have hd:l.drop (i+1)=r:=by have:=dr List.tail hr;simpa using this
  rw[dY,h i b hb hlt];unfold eE;by_cases hp:p b=true;·simp[hp,fq]
  ·have:=ih (i+1) hd hlt;simp only[hp];have e:i+1+eE p r=i+(eE p r+1):=by omega
   rw[e] at this;simp[hp,fq,this,eE]
def G6{β:Type}(p:β->Bool)(l:List β):eE p l<=l.length:=by unfold eE;exact(List.takeWhile_sublist _).length_le
def Ti{β:Type}(p:β->Bool):∀(l:List β) (j:Nat) (b:β),j<eE p l->l[j]?=some b->p b=false
 |[],j,b,h,_=>by simp[eE] at h
 |a::l,j,b,h,hb=>by
  unfold eE at h;rw[TZ] at h;by_cases hp:p a=true;·simp[hp] at h
  ·simp only[hp,M6,cG,cR] at h;cases j with
   |zero=>simp at hb;subst hb;simpa using hp
   |succ j=>exact Ti p l j b (by unfold eE;omega) (by simpa using hb)
def Th{β:Type}(p:β->Bool):∀(l:List β) (b:β),l[eE p l]?=some b->p b=true
 |[],b,h=>by simp at h
 |a::l,b,h=>by
  unfold eE at h;rw[TZ] at h;by_cases hp:p a=true;·simp[hp] at h;subst h;exact hp
  ·simp only[hp,M6,cG,cR,HG] at h;exact Th p l b h
def fW(c:UInt8)(f:ag->List ag)(s:ag)(i:Nat)(g:List ag×Nat)(b:Option UInt8):List ag×Nat:=match b with
 |some b=>if b=c then (g.1++f ((s.take i).drop g.2),i+1) else g
 |none=>(g.1++f ((s.take i).drop g.2),i+1)
def B7(c:UInt8):∀(cur rest:ag),(∀b∈cur,b≠c)->bu c (cur++rest)=match bu c rest with
  |w::ws=>(cur++w)::ws
  |[]=>[cur]
 |[],rest,_=>by
  cases h:bu c rest with
  |nil=>exact absurd h (xL c rest)
  |cons w ws=>simpa using h
 |a::cur,rest,h=>by rw[dw,bu,aD (h a (bF ..)),B7 c cur rest λb hb=>h b (b8 _ hb)];cases bu c rest<;>simp
def L9(c:UInt8)(cur:ag)(h:∀b∈cur,b≠c):bu c cur=[cur]:=by have:=B7 c cur [] h;simpa [bu] using this
def Mf:∀(p cur rest:ag),((p++(cur++rest)).take (p.length+cur.length)).drop p.length=cur
 |[],cur,rest=>by simp
 |a::p,cur,rest=>by have:=Mf p cur rest;simp only[cR,dw,show p.length+1+cur.length=p.length+cur.length+1 by omega,T3,List.drop_succ_cons];exact this
def PL(c:UInt8)(f:ag->List ag)(s:ag):foldI (fW c f s) 0 (s.map some++[none]) ([],0)=((bu c s).flatMap f,s.length+1):=by
 suffices H:∀(rest p cur:ag) (out:List ag),s=p++cur++rest->(∀b∈cur,b≠c)->foldI (fW c f s) (p.length+cur.length) (rest.map some++[none]) (out,p.length)=(out++(bu c (cur++rest)).flatMap f,s.length+1) by have:=H s [] [] [] rfl (by simp);simpa using this
 intro rest;induction rest with
 |nil=>intro p cur out hs hc;simp only[lH] at hs⊢;rw[L9 c cur hc];subst hs;have e1:=Mf p cur [];rw[lH] at e1;simp[foldI,fW,e1]
 |cons b rest ih=>
  intro p cur out hs hc;simp only[bD,dw,foldI];by_cases hb:b=c
  ·subst hb;have e1:(s.take (p.length+cur.length)).drop p.length=cur:=by subst hs;have:=Mf p cur (b::rest);rwa [<-mE] at this
   have:=ih (p++cur++[b]) [] (out++f cur) (by simp[hs]) (by simp);simp only[iD,cR,kM,eN] at this;simp only[fW,cG,e1];rw[show p.length+cur.length+1=p.length+cur.length+(0+1)+0 by omega,this,B7 b cur (b::rest) hc];simp[bu]
  ·have:=ih p (cur++[b]) out (by simp[hs]) (by
    intro x hx;rcases gG.1 hx with hx|hx;·exact hc x hx
    ·rw[fy.1 hx];exact hb)
   simp only[iD,cR,kM] at this;simp only[fW,hb,cT];rw[show p.length+cur.length+1=p.length+(cur.length+(0+1)) by omega,this];simp
def Tu(s:ag):iA s=(bu 44 s).flatMap λw=>if gi w≠[] then [gi w] else []:=by
 unfold iA;induction bu 44 s with
 |nil=>rfl
 |cons w l ih=>simp only[bD,List.filter_cons,jL,<-ih];by_cases h:gi w=[]<;>simp[h]
@[simp] def anq(l:List UInt8):l.map (λb:UInt8=>[X.int IntKind.u8 (b.toNat:Int)])=l.map eU:=rfl
@[simp] def apg(l:List UInt8):sn (l.map eU)=some l:=Tf l
def Me(c:UInt8):∀s:ag,((bu c s).map List.length).sum+(bu c s).length=s.length+1
 |[]=>rfl
 |b::s=>by
  have:=Me c s;unfold bu;split;·simp;omega
  ·cases h:bu c s with
   |nil=>exact absurd h (xL c s)
   |cons w ws=>rw[h] at this;simp at this⊢;omega
def SQ(c:UInt8)(s:ag):(bu c s).length<=s.length+1:=by have:=Me c s;omega
def oF(c:UInt8)(s:ag):∀w∈bu c s,w.length<=s.length:=by
 intro w hw;have h:=Me c s
 have h1:w.length+1<=((bu c s).map List.length).sum+(bu c s).length:=by
  clear h;revert hw;generalize bu c s=l;intro hw;induction l with
  |nil=>cases hw
  |cons x l ih=>
   rcases bZ.1 hw with rfl|hw;·simp;omega
   ·have:=ih hw;simp;omega
 omega
def Rn(b:UInt8)(h:65<=b.toNat/\b.toNat<=90):(b+32).toNat=b.toNat+32:=by rw[UInt8.toNat_add];have:(32:UInt8).toNat=32:=rfl;omega
def Tw{n:Int}(h1:0<=n)(h2:n<256):IntKind.u8.wrap n=n:=Mx h1 h2
end M
namespace M
def Pz{β γ:Type}(φ:β->List γ)(hφ:∀b,(φ b).length<=1)(l:List β)(i:Nat):((l.take i).flatMap φ).length<=i:=by
 induction l generalizing i with
 |nil=>simp
 |cons b l ih=>
  cases i with
  |zero=>simp
  |succ i=>have:=ih i;have:=hφ b;simp only[T3,jL,iD];omega
end M
namespace M
@[simp] def amu(i:Nat):((i:Int)<0)=False:=by simp
end M
namespace M
def jD{α:Type}(f:α->α)(l:List α)(i:Nat):List α:=(l.take i).map f++l.drop i
@[simp] def an9{α:Type}(f:α->α)(l:List α)(i:Nat):(jD f l i).length=l.length:=by simp[jD];omega
def afl{α:Type}(f:α->α)(l:List α):jD f l 0=l:=by simp[jD]
def afh{α:Type}(f:α->α)(l:List α):jD f l l.length=l.map f:=by simp[jD]
def afi{α:Type}(f:α->α)(l:List α)(i:Nat)(h:i<l.length):(jD f l i)[i]?=some l[i]:=by
 unfold jD;rw[iC (by simp;omega)];have:i - ((l.take i).map f).length=0:=by simp;omega
 rw[this];simp[h]
def afj{α:Type}(f:α->α)(l:List α)(i:Nat)(h:i<l.length)(h':i<(jD f l i).length):(jD f l i)[i]=l[i]:=by have:=afi f l i h;rw[cw h'] at this;exact gZ this
def afk{α:Type}(f:α->α)(l:List α)(i:Nat)(h:i<l.length):(jD f l i).set i (f l[i])=jD f l (i+1):=by
 unfold jD;rw[Hu _ _ (by simp;omega),ql h];have:i - ((l.take i).map f).length=0:=by simp;omega
 rw[this,oI h];simp only[CB,jq,bD,mD,mE,dw,eN]
end M
namespace M
@[simp] def afn(m:Md):∀(i:Nat) (l:List (List X)),X.bY m (l.take i)=(X.bY m l).take i
 |0,l=>by simp[X.bY]
 |i+1,[]=>by simp[X.bY]
 |i+1,a::l=>by simp[X.bY,afn m i l]
@[simp] def afm(m:Md):∀(i:Nat) (l:List (List X)),X.bY m (l.drop i)=(X.bY m l).drop i
 |0,l=>by simp
 |i+1,[]=>by simp[X.bY]
 |i+1,a::l=>by simp[X.bY,afm m i l]
end M
namespace M
open Go
abbrev dG:ag:=[99,111,110,116,101,110,116,45,108,101,110,103,116,104]
abbrev nv:ag:=[99,97,99,104,101,45,99,111,110,116,114,111,108]
abbrev jF:ag:=[118,97,114,121]
def xV{l:List ag}{a:ag}(h:a∈l):a.length<=wL wS l:=fu (w:=wS) h
def G9{l:List aJ}{a:aJ}(h:a∈l):a.name.length+a.value.length<=wL aN l:=fu (w:=aN) h
def jO(fs:List aJ)(n:ag):Option (Nat×aJ):=cU (λf=>decide (f.name=n)) 0 fs
def j8(o:Option (Nat×aJ)):Int:=o.elim (-1) λx=>(x.1:Int)
def ei(fs:List aJ)(n:ag):Option ag:=(jO fs n).map λx=>x.2.value
def Wl{fs:List aJ}{n:ag}{i:Nat}{f:aJ}(h:jO fs n=some (i,f)):∃hi:i<fs.length,fs[i]=f/\f.name=n:=by obtain⟨_,h2,h3⟩:=qR h;simp at h2 h3;obtain⟨hi,e⟩:=aF.1 h2;exact⟨hi,e,h3⟩
def vG(fs:List aJ)(n:ag):((ei fs n).getD []).length<=wL aN fs:=by
 unfold ei;cases h:jO fs n with
 |none=>simp
 |some x=>obtain⟨i,f⟩:=x;obtain⟨hi,rfl,_⟩:=Wl h;have:=G9 (bx hi);simp;omega
def ju(fs:List aJ)(x:aJ×Nat):Bool:=eC x.1.name && fR x.1.value && decide (j8 (jO fs x.1.name)=x.2) && !decide (x.1.name=dG)
def jt(fs:List aJ):Bool:=aM (ju fs) fs.zipIdx && decide ((fs.length:Int)<=8)
def fP(r:cg):Bool:=decide (100<=r.status/\r.status<=599) && jt r.fields && decide ((r.body.length:Int)<=120)
def nB(q:Rq):Bool:=decide (1<=q.method/\q.method<=4) && gV q.path && jt q.fields && decide ((q.body.length:Int)<=120)
def gF(fs:List aJ):List ag:=(iA ((ei fs jF).getD [])).map ct
def w6(l:List ag):Bool:=aM eC l && decide ((l.length:Int)<=4)
def cO(o:Ob):Bool:=fP o.resp && gV o.path && decide (0<=o.t/\o.t<=1000000) && w6 o.names && decide (o.names=gF o.resp.fields) && decide (o.values.length=o.names.length) && aM fR o.values
def dV(b:Bn):Bool:=decide (0<=b.t/\b.t<=1000000) && (if b.kind=1\/b.kind=2 then gV b.a && decide (b.b=[]) else if b.kind=3 then eC b.a && fR b.b else false)
def lZ(b:Bn)(o:Ob):Bool:=decide (o.t<=b.t) && dV b && cO o && (if b.kind=1 then decide (o.path=b.a) else if b.kind=2 then b.a.isPrefixOf o.path else decide (ei o.resp.fields b.a=some b.b))
def o8(l:List Bn)(o:Ob):Bool:=l.any λb=>lZ b o
def rR(w:Wr):Bool:=decide (0<=w.at_/\w.at_<=19)
def dc(d:bg):Bool:=aM rR d.pending && decide ((d.cells.length:Int)=20) && decide ((d.pending.length:Int)<=16)
def nA(l:List Kp)(i:Nat):Int:=if i=0 then 0 else (l[i - 1]?.map λk=>k.seq).getD 0
def rC(S:Int)(l:List Kp)(x:Kp×Nat):Bool:=cO x.1.obj && decide (5<=x.1.at_/\x.1.at_<=19) && aM (λy=>decide ¬y.at_=x.1.at_) (l.take x.2) && decide (nA l x.2<x.1.seq) && decide (x.1.seq<S)
def k7(S:Int)(l:List Kp)(x:Kp×Nat):Bool:=cO x.1.obj && decide (5<=x.1.at_/\x.1.at_<=19) && decide (1<=x.1.seq/\x.1.seq<=S - 1) && decide (x.2=0\/nA l x.2<x.1.seq) && aM (λy=>decide ¬y.at_=x.1.at_) (l.take x.2)
def tZ(S:Int)(l:List Kp):Bool:=aM (rC S l) l.zipIdx
def Lf(l:List Kp)(i:Nat)(h:i<l.length):nA l (i+1)=l[i].seq:=by simp[nA,h]
def ae0(S:Int)(l:List Kp):aM (k7 S l) l.zipIdx=tZ S l:=by
 unfold tZ;rw[Hz,iX,iX];have hm:∀x∈l.zipIdx,∃h:x.2<l.length,x.1=l[x.2]:=λx hx=>by obtain⟨i,hi,rfl⟩:=yl hx;simp at hi;exact⟨by simpa using hi,by simp⟩
 have hz:∀i (h:i<l.length),(l[i],i)∈l.zipIdx:=λi h=>by
  have:(l.zipIdx)[i]'(by simpa using h)=(l[i],i):=by simp
  rw[<-this];exact bx _
 constructor
 ·intro h x hx;have h1:=h x hx;simp only[k7,rC,aA,bz] at h1⊢;obtain⟨⟨⟨⟨a,b⟩,c⟩,d⟩,e⟩:=h1;refine⟨⟨⟨⟨a,b⟩,e⟩,?_⟩,by omega⟩;rcases d with d|d;·rw[d];have:nA l 0=0:=rfl;omega
  ·exact d
 ·intro h
  have pos:∀i (hi:i<l.length),1<=l[i].seq:=by
   intro i;induction i with
   |zero=>intro hi;have h1:=h _ (hz 0 hi);simp only[rC,aA,bz] at h1;have:nA l 0=0:=rfl;omega
   |succ i ih=>intro hi;have h1:=h _ (hz (i+1) hi);simp only[rC,aA,bz] at h1;have h2:=Lf l i (by omega);have h3:=ih (by omega);omega
  intro x hx;have h1:=h x hx;obtain⟨hl,e⟩:=hm x hx;have h2:=pos x.2 hl;rw[<-e] at h2;simp only[k7,rC,aA,bz] at h1⊢;obtain⟨⟨⟨⟨a,b⟩,c⟩,d⟩,f⟩:=h1;exact⟨⟨⟨⟨a,b⟩,by omega⟩,.inr d⟩,c⟩
def Jg{β:Type}(p:β->Bool):∀(l:List β) (k:Nat),(cU p k l).isSome= !aM (λb=> !p b) l
 |[],_=>rfl
 |b::l,k=>by
  unfold cU aM;by_cases h:p b=true;·simp[h]
  ·have:=Jg p l (k+1);unfold aM at this;simp[h,this]
def xU{l:List Kp}{k:Kp}(h:k∈l):aZ k.obj<=wL bP l:=fu (w:=bP) h
def G7{l:List Bn}{b:Bn}(h:b∈l):aV b<=wL aV l:=fu (w:=aV) h
def lz(s:Sh):Bool:=dc s.aP && decide ((s.aU.length:Int)<=5) && decide (5<=s.next/\s.next<=19) && decide (1<=s.seq/\s.seq<=100000) && aM dV s.aU && tZ s.seq s.av
end M
namespace M
open Go
def fX(_:Int)(k:Int):Int:=k
def eL(_:ag)(k:Int):ag:=AZ k
def Rv(_:Bool)(k:Int):Bool:=decide (k.tmod 3=0)
def bE{α:Type}(_:α):Nat:=1
def en{α:Type}(mk:α->Int->α)(n:α->Nat):List α->Int->List α
 |[],_=>[]
 |a::l,k=>mk a k::en mk n l (k+(n a:Nat))
def nL{α:Type}(n:α->Nat)(l:List α):Nat:=(l.map n).sum
@[simp] def afs{α:Type}(mk:α->Int->α)(n:α->Nat):∀(l:List α) (k:Int),(en mk n l k).length=l.length
 |[],_=>rfl
 |a::l,k=>by simp[en,afs mk n l]
def oa(a:aJ)(k:Int):aJ:=⟨eL a.name (k),eL a.value (k+1)⟩
def bw(a:aJ):Nat:=2
def afy(a:Wr)(k:Int):Wr:=⟨fX a.at_ (k),eL a.text (k+1)⟩
def OR(a:Wr):Nat:=2
def afv(a:Kp)(k:Int):Kp:=⟨⟨eL a.obj.path (k),en eL bE a.obj.names (k+1),en eL bE a.obj.values (k+1+(nL bE a.obj.names:Nat)),⟨fX a.obj.resp.status (k+1+(nL bE a.obj.names:Nat)+(nL bE a.obj.values:Nat)),en oa bw a.obj.resp.fields (k+1+(nL bE a.obj.names:Nat)+(nL bE a.obj.values:Nat)+1),eL a.obj.resp.body (k+1+(nL bE a.obj.names:Nat)+(nL bE a.obj.values:Nat)+1+(nL bw a.obj.resp.fields:Nat))⟩,fX a.obj.t (k+1+(nL bE a.obj.names:Nat)+(nL bE a.obj.values:Nat)+1+(nL bw a.obj.resp.fields:Nat)+1)⟩,fX a.at_ (k+1+(nL bE a.obj.names:Nat)+(nL bE a.obj.values:Nat)+1+(nL bw a.obj.resp.fields:Nat)+1+1),fX a.seq (k+1+(nL bE a.obj.names:Nat)+(nL bE a.obj.values:Nat)+1+(nL bw a.obj.resp.fields:Nat)+1+1+1)⟩
def IV(a:Kp):Nat:=6+nL bE a.obj.names+nL bE a.obj.values+nL bw a.obj.resp.fields
def aft(a:Bn)(k:Int):Bn:=⟨fX a.kind (k),eL a.a (k+1),eL a.b (k+1+1),fX a.t (k+1+1+1)⟩
def OP(a:Bn):Nat:=4
def afu(a:Fl)(k:Int):Fl:=⟨⟨fX a.q.method (k),eL a.q.path (k+1),en oa bw a.q.fields (k+1+1),eL a.q.body (k+1+1+(nL bw a.q.fields:Nat))⟩,en fX bE a.who (k+1+1+(nL bw a.q.fields:Nat)+1),⟨eL a.old.path (k+1+1+(nL bw a.q.fields:Nat)+1+(nL bE a.who:Nat)),en eL bE a.old.names (k+1+1+(nL bw a.q.fields:Nat)+1+(nL bE a.who:Nat)+1),en eL bE a.old.values (k+1+1+(nL bw a.q.fields:Nat)+1+(nL bE a.who:Nat)+1+(nL bE a.old.names:Nat)),⟨fX a.old.resp.status (k+1+1+(nL bw a.q.fields:Nat)+1+(nL bE a.who:Nat)+1+(nL bE a.old.names:Nat)+(nL bE a.old.values:Nat)),en oa bw a.old.resp.fields (k+1+1+(nL bw a.q.fields:Nat)+1+(nL bE a.who:Nat)+1+(nL bE a.old.names:Nat)+(nL bE a.old.values:Nat)+1),eL a.old.resp.body (k+1+1+(nL bw a.q.fields:Nat)+1+(nL bE a.who:Nat)+1+(nL bE a.old.names:Nat)+(nL bE a.old.values:Nat)+1+(nL bw a.old.resp.fields:Nat))⟩,fX a.old.t (k+1+1+(nL bw a.q.fields:Nat)+1+(nL bE a.who:Nat)+1+(nL bE a.old.names:Nat)+(nL bE a.old.values:Nat)+1+(nL bw a.old.resp.fields:Nat)+1)⟩,Rv a.nX (k+1+1+(nL bw a.q.fields:Nat)+1+(nL bE a.who:Nat)+1+(nL bE a.old.names:Nat)+(nL bE a.old.values:Nat)+1+(nL bw a.old.resp.fields:Nat)+1+1)⟩
def IU(a:Fl):Nat:=8+nL bw a.q.fields+nL bE a.who+nL bE a.old.names+nL bE a.old.values+nL bw a.old.resp.fields
def afx(a:Se)(k:Int):Se:=⟨⟨fX a.q.method (k),eL a.q.path (k+1),en oa bw a.q.fields (k+1+1),eL a.q.body (k+1+1+(nL bw a.q.fields:Nat))⟩,⟨fX a.resp.status (k+1+1+(nL bw a.q.fields:Nat)+1),en oa bw a.resp.fields (k+1+1+(nL bw a.q.fields:Nat)+1+1),eL a.resp.body (k+1+1+(nL bw a.q.fields:Nat)+1+1+(nL bw a.resp.fields:Nat))⟩,fX a.t (k+1+1+(nL bw a.q.fields:Nat)+1+1+(nL bw a.resp.fields:Nat)+1)⟩
def OQ(a:Se):Nat:=6+nL bw a.q.fields+nL bw a.resp.fields
def afw(a:Rp)(k:Int):Rp:=⟨fX a.client (k),⟨fX a.q.method (k+1),eL a.q.path (k+1+1),en oa bw a.q.fields (k+1+1+1),eL a.q.body (k+1+1+1+(nL bw a.q.fields:Nat))⟩,⟨fX a.resp.status (k+1+1+1+(nL bw a.q.fields:Nat)+1),en oa bw a.resp.fields (k+1+1+1+(nL bw a.q.fields:Nat)+1+1),eL a.resp.body (k+1+1+1+(nL bw a.q.fields:Nat)+1+1+(nL bw a.resp.fields:Nat))⟩,fX a.kind (k+1+1+1+(nL bw a.q.fields:Nat)+1+1+(nL bw a.resp.fields:Nat)+1),fX a.t (k+1+1+1+(nL bw a.q.fields:Nat)+1+1+(nL bw a.resp.fields:Nat)+1+1),⟨eL a.obj.path (k+1+1+1+(nL bw a.q.fields:Nat)+1+1+(nL bw a.resp.fields:Nat)+1+1+1),en eL bE a.obj.names (k+1+1+1+(nL bw a.q.fields:Nat)+1+1+(nL bw a.resp.fields:Nat)+1+1+1+1),en eL bE a.obj.values (k+1+1+1+(nL bw a.q.fields:Nat)+1+1+(nL bw a.resp.fields:Nat)+1+1+1+1+(nL bE a.obj.names:Nat)),⟨fX a.obj.resp.status (k+1+1+1+(nL bw a.q.fields:Nat)+1+1+(nL bw a.resp.fields:Nat)+1+1+1+1+(nL bE a.obj.names:Nat)+(nL bE a.obj.values:Nat)),en oa bw a.obj.resp.fields (k+1+1+1+(nL bw a.q.fields:Nat)+1+1+(nL bw a.resp.fields:Nat)+1+1+1+1+(nL bE a.obj.names:Nat)+(nL bE a.obj.values:Nat)+1),eL a.obj.resp.body (k+1+1+1+(nL bw a.q.fields:Nat)+1+1+(nL bw a.resp.fields:Nat)+1+1+1+1+(nL bE a.obj.names:Nat)+(nL bE a.obj.values:Nat)+1+(nL bw a.obj.resp.fields:Nat))⟩,fX a.obj.t (k+1+1+1+(nL bw a.q.fields:Nat)+1+1+(nL bw a.resp.fields:Nat)+1+1+1+1+(nL bE a.obj.names:Nat)+(nL bE a.obj.values:Nat)+1+(nL bw a.obj.resp.fields:Nat)+1)⟩,fX a.aU (k+1+1+1+(nL bw a.q.fields:Nat)+1+1+(nL bw a.resp.fields:Nat)+1+1+1+1+(nL bE a.obj.names:Nat)+(nL bE a.obj.values:Nat)+1+(nL bw a.obj.resp.fields:Nat)+1+1)⟩
def YX(a:Rp):Nat:=13+nL bw a.q.fields+nL bw a.resp.fields+nL bE a.obj.names+nL bE a.obj.values+nL bw a.obj.resp.fields
def Ch(a:Rq)(k:Int):Rq:=⟨a.method,a.path,en oa bw a.fields (k),a.body⟩
@[simp] def ao9(a:Rq)(k:Int):(Ch a k).method=a.method:=rfl
@[simp] def apa(a:Rq)(k:Int):(Ch a k).path=a.path:=rfl
@[simp] def ao8(a:Rq)(k:Int):(Ch a k).body=a.body:=rfl
def Mk(a:Rq):Nat:=nL bw a.fields
def xN(a:cg)(k:Int):cg:=⟨a.status,en oa bw a.fields (k),a.body⟩
@[simp] def apc(a:cg)(k:Int):(xN a k).status=a.status:=rfl
@[simp] def apb(a:cg)(k:Int):(xN a k).body=a.body:=rfl
def ahT(a:cg):Nat:=nL bw a.fields
def Mi(a:Ob)(k:Int):Ob:=⟨a.path,en eL bE a.names (k),en eL bE a.values (k+(nL bE a.names:Nat)),xN a.resp (k+(nL bE a.names:Nat)+(nL bE a.values:Nat)),a.t⟩
@[simp] def ao5(a:Ob)(k:Int):(Mi a k).path=a.path:=rfl
@[simp] def ao6(a:Ob)(k:Int):(Mi a k).resp=xN a.resp (k+(nL bE a.names:Nat)+(nL bE a.values:Nat)):=rfl
@[simp] def ao7(a:Ob)(k:Int):(Mi a k).t=a.t:=rfl
def S9(a:bg)(k:Int):bg:=⟨en eL bE a.cells (k),en afy OR a.pending (k+(nL bE a.cells:Nat))⟩
def Mj(a:bg):Nat:=nL bE a.cells+nL OR a.pending
def Ci(a:Sh)(k:Int):Sh:=⟨S9 a.aP (k),en afv IV a.av (k+(Mj a.aP:Nat)),en aft OP a.aU (k+(Mj a.aP:Nat)+(nL IV a.av:Nat)),a.next,a.seq⟩
@[simp] def apd(a:Sh)(k:Int):(Ci a k).aP=S9 a.aP (k):=rfl
@[simp] def ape(a:Sh)(k:Int):(Ci a k).next=a.next:=rfl
@[simp] def apf(a:Sh)(k:Int):(Ci a k).seq=a.seq:=rfl
def Ml(a:Sh):Nat:=Mj a.aP+nL IV a.av+nL OP a.aU
def S8(a:Ca)(k:Int):Ca:=⟨Ci a.aI (k),en afu IU a.bO (k+(Ml a.aI:Nat)),a.now,en afx OQ a.seen (k+(Ml a.aI:Nat)+(nL IU a.bO:Nat)),en afw YX a.sent (k+(Ml a.aI:Nat)+(nL IU a.bO:Nat)+(nL OQ a.seen:Nat))⟩
@[simp] def aoY(a:Ca)(k:Int):(S8 a k).aI=Ci a.aI (k):=rfl
@[simp] def aoX(a:Ca)(k:Int):(S8 a k).now=a.now:=rfl
def xM(a:De)(k:Int):De:=⟨a.kind,a.client,Ch a.q (k),a.a,xN a.resp (k+(Mk a.q:Nat)),a.qA,en Rv bE a.keep (k+(Mk a.q:Nat)+(ahT a.resp:Nat))⟩
@[simp] def ao2(a:De)(k:Int):(xM a k).kind=a.kind:=rfl
@[simp] def ao1(a:De)(k:Int):(xM a k).client=a.client:=rfl
@[simp] def ao3(a:De)(k:Int):(xM a k).q=Ch a.q (k):=rfl
@[simp] def aoZ(a:De)(k:Int):(xM a k).a=a.a:=rfl
@[simp] def ao4(a:De)(k:Int):(xM a k).resp=xN a.resp (k+(Mk a.q:Nat)):=rfl
@[simp] def ao0(a:De)(k:Int):(xM a k).qA=a.qA:=rfl
end M
namespace M
open Go Go.RowKit
def nQ.cell[B:Bs]{w:World}(h:nQ w){b k:Nat}{v:Value}(hc:B.W0.cell? ⟨b,k,none⟩=some v):w.cell? ⟨b,k,none⟩=some v:=by
 have hb:b<B.W0.heap.size:=by
  rcases iB b B.W0.heap.size with h|h;·exact h
  ·simp[World.cell?,lI h] at hc
 have e:=h b hb;simpa [World.cell?,e] using hc
def Wu(w:World):Below w.heap.size w w.drew:=(Below.refl _ _).drew
def Wv(w:World):∀n,Below w.heap.size w (w.drewN n):=λn=>⟨rfl,rfl,rfl,e7 _,λ_ _=>rfl⟩
def Cj{cs:List C}{s c:ByteArray}(h:cs.map C.er=[.str s,.str c]):cs=[.str s,.str c]:=by obtain⟨a,r,rfl,h1,h2⟩:=map_cons h;obtain⟨b,r',rfl,h3,h4⟩:=map_cons h2;obtain rfl:=map_nil h4;rw[yR h1,yR h3]
def af7{cs:List C}{s:ByteArray}(h:cs.map C.er=[.str s]):cs=[.str s]:=by obtain⟨a,r,rfl,h1,h2⟩:=map_cons h;obtain rfl:=map_nil h2;rw[yR h1]
def alj[Bs]{P:Program}{f0:FuncId}(hc:∀(s:ByteArray) (c:UInt8),c.toNat<128->∀w,s.size<=9223372036854775807->
  Calls P f0 #[.string s,.string ⟨#[c]⟩] w λe w'=>e=.returned (.string ⟨(Lib.trimB s.data.toList c).toArray⟩)/\(w'=w\/w'=w.drew)):(eX f0 G0).Sound P:=
 tW λxs r hg w zl zb cs hx hA hs=>by
  unfold G0 at hg;split at hg
  ·rename_i s c;split at hg
   ·rename_i hh;cases hg;obtain rfl:=Cj hx;have e:c=⟨#[32]⟩:=by have:=dr List.toArray hh.1;simp at this;cases c;simp at this;rw[this]
    subst e;refine(hc s 32 (by decide) w hh.2).mono λe w' ⟨he,hw⟩=>⟨.str ⟨(gi s.data.toList).toArray⟩,he,rfl,?_,yV ?_⟩
    ·rcases hw with rfl|rfl;·exact Below.refl _ _
     ·exact Wu _
    ·have:=Tc s.data.toList;have h2:=hh.2;simp only[ByteArray.size] at h2⊢;simp at this⊢;omega
   ·cases hg
  ·cases hg
def ahy[B:Bs]{P:Program}{f0:FuncId}{g1:Nat}{t9:TypeId}(hm:∃m,B.W0.cell? ⟨g1,0,none⟩=some (.int .i64 m))(hc:∀(s sep:ByteArray) (m:Int) (w:World),s.size<4294967281->w.cell? ⟨g1,0,none⟩=some (.int .i64 m)->1<=sep.size->
  Calls P f0 #[.string s,.string sep] w λe w'=>e=.returned (.slice (some ⟨w.heap.size,0,none⟩) (Lib.countB s sep+1) (Lib.countB s sep+1))/\w'=w.alloc (.cells ((Lib.splitB sep 0 (Lib.countB s sep) s).map Value.string).toArray t9)):(eX f0 B8).Sound P:=
 tW λxs r hg w zl zb cs hx hA hs=>by
  unfold B8 at hg;split at hg
  ·rename_i s c;split at hg
   ·rename_i hh;cases hg;obtain rfl:=Cj hx;obtain⟨m,hm⟩:=hm;have hlen:=Lib.splitB_all c hh.2 0 _ s rfl;have Qo:=Lib.splitB_data c 0 (Lib.countB s c) s;refine(hc s c m w hh.1 (hs.cell hm) hh.2).mono λe w' ⟨he,hw⟩=>?_;subst hw;refine⟨.row .own 1 (some (w.heap.size,0,none)) (Lib.splitB c 0 (Lib.countB s c) s).length (Lib.splitB c 0 (Lib.countB s c) s).length λi _=>.str ((Lib.splitB c 0 (Lib.countB s c) s).getD i ByteArray.empty),?_,?_,?_,?_⟩;·rw[he,hlen];rfl
    ·rw[ag9];unfold F4;congr 1;have:Lib.split s.data.toList c.data.toList=(Lib.splitB c 0 (Lib.countB s c) s).map (·.data.toList):=Qo.symm;rw[this,cK];refine b9 λx _=>?_;simp
    ·exact(Below.refl _ _).alloc (e7 _) _
    ·refine adh (e7 _) (t:=t9) ?_ λx hx=>?_;·show (w.heap.push _)[w.heap.size]?=_;simp
     ·have h1:x.data.toList∈Lib.splitK c.data.toList 0 (Lib.countB s c) s.data.toList:=by rw[<-Qo];exact fK hx
      have h2:∀(k:Nat) (l:List UInt8),∀y∈Lib.splitK c.data.toList 0 k l,y.length<=l.length:=by
       intro k;induction k with
       |zero=>intro l y hy;simp[Lib.splitK] at hy;rw[hy];exact e7 _
       |succ k ih=>
        intro l y hy;unfold Lib.splitK at hy;split at hy;·rw[fy.1 hy];exact e7 _
        ·rcases bZ.1 hy with rfl|hy;·simp;omega
         ·have:=ih _ _ hy;simp at this;omega
      have h3:=h2 _ _ _ h1;have h4:=hh.1;have e1:s.size=s.data.toList.length:=Lib.size_eq _;have e2:x.size=x.data.toList.length:=Lib.size_eq _;omega
   ·cases hg
  ·cases hg
def Dh(s c:ag):(Lib.cut s c).1.length<=s.length/\(Lib.cut s c).2.1.length<=s.length:=by
 unfold Lib.cut;split;·simp;omega
 ·simp
def Zb[B:Bs]{P:Program}{f0:FuncId}{g1:Nat}(hm:∃m,B.W0.cell? ⟨g1,0,none⟩=some (.int .i64 m))(hc:∀(s sep:ByteArray) (m:Int) (w:World),s.size<4294967281->w.cell? ⟨g1,0,none⟩=some (.int .i64 m)->
  Calls P f0 #[.string s,.string sep] w λe w'=>e=.returned (.tuple #[.string ⟨(Lib.cut s.data.toList sep.data.toList).1.toArray⟩,.string ⟨(Lib.cut s.data.toList sep.data.toList).2.1.toArray⟩,.bool (Lib.cut s.data.toList sep.data.toList).2.2])/\∃n,w'=w.drewN n):(eX f0 Df).Sound P:=
 tW λxs r hg w zl zb cs hx hA hs=>by
  unfold Df at hg;split at hg
  ·rename_i s c;split at hg
   ·rename_i hh;cases hg;obtain rfl:=Cj hx;obtain⟨m,hm⟩:=hm;have hl:=Dh s.data.toList c.data.toList;refine(hc s c m w hh (hs.cell hm)).mono λe w' ⟨he,n,hw⟩=>?_;subst hw;refine⟨xQ [.str ⟨(Lib.cut s.data.toList c.data.toList).1.toArray⟩,.str ⟨(Lib.cut s.data.toList c.data.toList).2.1.toArray⟩,.bool (Lib.cut s.data.toList c.data.toList).2.2],?_,?_,Wv _ n,Jp λx hx=>?_⟩;·rw[he,Mq];rfl
    ·rw[Mp];rfl
    ·have hz:s.data.toList.length<=4294967281:=by have e1:s.size=s.data.toList.length:=Lib.size_eq _;omega
     simp only[bZ,Ht,or_false] at hx;rcases hx with rfl|rfl|rfl;·exact⟨yV (by simp only[ByteArray.size,qh];omega),trivial,λ_ _ h=>h⟩
     ·exact⟨yV (by simp only[ByteArray.size,qh];omega),trivial,λ_ _ h=>h⟩
     ·exact⟨DB,trivial,λ_ _ h=>h⟩
   ·cases hg
  ·cases hg
def afK[B:Bs]{P:Program}{f0:FuncId}(hc:∀(s:ByteArray) (w:World),nQ w->s.size<=9223372036854775807->
  Calls P f0 #[.string s] w λe w'=>e=.returned (.tuple #[.int .i64 (((bq s.data.toList).getD 0:Nat):Int),.bool (bq s.data.toList).isSome])/\Below w.heap.size w w'):(eX f0 FP).Sound P:=
 tW λxs r hg w zl zb cs hx hA hs=>by
  unfold FP at hg;split at hg
  ·rename_i s;split at hg
   ·rename_i hh;cases hg;obtain rfl:=af7 hx;refine(hc s w hs hh).mono λe w' ⟨he,hw⟩=>?_;refine⟨xQ [.int .i64 (((bq s.data.toList).getD 0:Nat):Int),.bool (bq s.data.toList).isSome],?_,?_,hw,Jp λx hx=>?_⟩;·rw[he,Mq];rfl
    ·rw[Mp];cases bq s.data.toList<;>rfl
    ·simp only[bZ,Ht,or_false] at hx;rcases hx with rfl|rfl;·exact⟨adg,trivial,λ_ _ h=>h⟩
     ·exact⟨DB,trivial,λ_ _ h=>h⟩
   ·cases hg
  ·cases hg
def aeC[B:Bs]{P:Program}{f0:FuncId}(htab:Lib.TabIs P B.W0 "internal/strconv.uint64pow10" .u64 Lib.pow10Tab) (hc:∀(n:Int),-9223372036854775808<=n->n<=9223372036854775807->∀w,Lib.TabIs P w "internal/strconv.uint64pow10" .u64 Lib.pow10Tab->
  Calls P f0 #[.int .i64 n] w λe w'=>e=.returned (.string ⟨(Lib.itoa n).toArray⟩)/\∃k os,w'=Sort.grow (w.drewN k) os):(jG f0 Af).Sound P:=
 adp λxs r h w hw=>by
  unfold Af at h;split at h
  ·rename_i n;split at h;·rename_i Qm;cases h;exact hc n Qm.1 Qm.2 w (TabIs.same htab hw)
   ·cases h
  ·cases h
end M
namespace Go.Proofs
open Go.RowKit
def ahO{P:Program}{w w':World}{n:String}{k:IntKind}{zs:List Int}(h:Lib.TabIs P w n k zs)(hw:Below w.heap.size w w'):Lib.TabIs P w' n k zs:=by
 unfold Lib.TabIs World.var? at h⊢;cases hg:P.globalNamed n with
 |none=>rw[hg] at h;cases h
 |some g=>
  rw[hg] at h;simp only[gj] at h⊢
  have hlt:g<w.heap.size:=by
   rcases iB g w.heap.size with h'|h';·exact h'
   ·rw[lI h'] at h;cases h
  rw[hw.block g hlt];exact h
def To[B:M.Bs]{P:Program}{w:World}{n:String}{cs:Array Value}(h:B.W0.var? P n=some cs)(hw:M.nQ w):w.var? P n=some cs:=by
 unfold World.var? at h⊢;cases hg:P.globalNamed n with
 |none=>rw[hg] at h;cases h
 |some g=>
  rw[hg] at h;simp only[gj] at h⊢
  have hlt:g<B.W0.heap.size:=by
   rcases iB g B.W0.heap.size with h'|h';·exact h'
   ·rw[lI h'] at h;cases h
  rw[hw g hlt];exact h
def adq(w:World)(k:Nat)(os:Array Obj):Below w.heap.size w (Sort.grow (w.drewN k) os):=
 ⟨rfl,rfl,rfl,by simp[Sort.grow,World.drewN],λb hb=>by show (w.heap++os)[b]?=w.heap[b]?;exact M9 hb⟩
def og(v:Int)(l:List UInt8):Bool:=decide (0<=v/\v<=1000000/\Lib.itoa v=l)
def w9(v:Int)(l:List UInt8):Int:=if og v l=true then v else 0
def afI{P:Program}{f a:FuncId}{s:ByteArray}{w:World}(hmax:s.size<=9223372036854775807)
  (ad3:7<s.size->Calls P f #[.string s] w λe w'=>e=.returned (.tuple #[.int .i64 0,.bool false])/\w'=w)
  (hok:¬7<s.size->∀v,Lib.atoiAll s.data.toList=.ok v->Calls P f #[.string s] w λe w'=>e=.returned (.tuple #[.int .i64 (w9 v s.data.toList),.bool (og v s.data.toList)])/\Below w.heap.size w w')
  (adI:¬7<s.size->(∀v,Lib.atoiAll s.data.toList≠.ok v)->Calls P f #[.string s] w λe w'=>e=.returned (.tuple #[.int .i64 0,.bool false])/\Below w.heap.size w w'):
  Calls P f #[.string s] w λe w'=>e=.returned (.tuple #[.int .i64 (((M.bq s.data.toList).getD 0:Nat):Int),.bool (M.bq s.data.toList).isSome])/\Below w.heap.size w w':=by
 have hl:s.size=s.data.toList.length:=Lib.size_eq _;by_cases h:7<s.size;·rw[M.RB _ (by omega)];exact(ad3 h).mono λe w' ⟨he,hw⟩=>⟨he,hw▸Below.refl _ _⟩
 by_cases hv:∃v,Lib.atoiAll s.data.toList=.ok v
 ·obtain⟨v,hv⟩:=hv;rw[<-M.afL _ _ hv];refine(hok h v hv).mono λe w' ⟨he,hw⟩=>⟨?_,hw⟩;rw[he];by_cases hb:og v s.data.toList=true;·have hb':=hb;unfold og at hb';rw[bz] at hb';rw[w9,ay hb,hb,ay hb'];simp;omega
  ·have hb':=hb;unfold og at hb';rw[bz] at hb';rw[w9,aD hb,aD hb'];simp[hb]
 ·have ez:∀v,Lib.atoiAll s.data.toList≠.ok v:=λv e=>hv ⟨v,e⟩;rw[M.afN _ ez];exact adI h ez
def aoN{H:Type}{enc:TypeId×Value->H}{a:Assume}{C:Checked}{os:Os}{f:FuncId}{fn:Func}{s:ChangeSpec}{conds:List PathCond}{apart fresh handsOn again:Bool}{X:World->Array Value->Prop}
  (hX:∀(w w':World) (args:Array Value),w.heap=w'.heap->X w args->X w' args)
  (own:ownKnob C.prog.godebug=none)(started:os.Started)(noInit:C.prog.inits.idxOf? f=none)(hfn:C.prog.funcs[f]?=some fn)
  (witness:∃(w:World) (tape:Tape) (i:Input),w.os=os/\(w.forCall tape i).Shaped C.prog/\i.vars=[]/\Input.okWide C.prog (w.forCall tape i) .any w.heap.size f i/\
   ((s.pre enc C.prog fn conds apart (w.forCall tape i).memory i.args/\X (w.forCall tape i).memory i.args)/\sizedMet enc C.prog fn (OpenSpec.ofChange s) apart (w.forCall tape i).memory i.args)/\a.holds C.prog (lone (Frame.enter C.prog f i.args .normal) [] (w.forCall tape i)))
  (contract:∀(W:World) (base:Nat) (args:Array Value) (ds gs:List (DataW H)) (before:List MemPlace),
   (∀(j:Nat) t v,fn.params[j]?=some t->args[j]?=some v->Value.okWide C.prog W .any base t v)->
   DataW.Whole enc C.prog fn.params.toList s.vars apart W args.toList ds gs before->
   conds.all (PathCond.test C.prog ⟨fn.params.toList,ds,s.plain.varTypes C.prog,gs⟩)=true->
   (DataW.weightsEach C.prog (fn.params.toList++s.plain.varTypes C.prog) (ds++gs)).all (· <=reachBytes)=true->X W args->
   W.ShapedOpen C.prog->
   a.holds C.prog (lone (Frame.enter C.prog f args .normal) [] W)->
   Calls C.prog f args W λe W'=>∃v,e=.returned v/\s.post enc C.prog fn apart fresh handsOn again W args v W'):
  ReturnsInHanded a C os f .any (λw args=>(s.pre enc C.prog fn conds apart w args/\X w args)/\sizedMet enc C.prog fn (OpenSpec.ofChange s) apart w args) (s.post enc C.prog fn apart fresh handsOn again):=by refine returnsInHanded_of_calls own started noInit witness ?_;intro w tape i _ hsh _ hok hpre hholds;obtain⟨_,_,_,fn',adW,_,_,_,_,hval⟩:=hok;have e:fn'=fn:=gZ (adW.symm.trans hfn);subst e;obtain⟨⟨⟨ds,gs,before,hw,hc⟩,hx⟩,hz⟩:=hpre;have hw':=DataW.Whole.of_heap (w':=w.forCall tape i) (by rfl) hw;refine(contract (w.forCall tape i) w.heap.size i.args ds gs before hval hw' hc (hz.weights hw) (hX _ _ _ (by rfl) hx) hsh hholds).mono λe W' ⟨v,he,hp⟩=>?_;subst he;exact ChangeSpec.post_blind hp
end Go.Proofs
namespace M
open Go Go.RowKit
def alk(s c:ag):(Lib.trimPrefix s c).length<=s.length:=by
 unfold Lib.trimPrefix;split;·simp
 ·exact e7 _
def Zc[B:Bs]{P:Program}{f0:FuncId}(hc:∀(s p:ByteArray) (w:World),
  Calls P f0 #[.string s,.string p] w λe w'=>e=.returned (.tuple #[.string ⟨(Lib.trimPrefix s.data.toList p.data.toList).toArray⟩,.bool (Lib.hasPrefix s.data.toList p.data.toList)])/\w'=w):(eX f0 Dg).Sound P:=
 tW λxs r hg w zl zb cs hx hA hs=>by
  unfold Dg at hg;split at hg
  ·rename_i s c;split at hg
   ·rename_i hh;cases hg;obtain rfl:=Cj hx;have hl:=alk s.data.toList c.data.toList;refine(hc s c w).mono λe w' ⟨he,hw⟩=>?_;subst hw;refine⟨xQ [.str ⟨(Lib.trimPrefix s.data.toList c.data.toList).toArray⟩,.bool (Lib.hasPrefix s.data.toList c.data.toList)],?_,?_,Below.refl _ _,Jp λx hx=>?_⟩;·rw[he,Mq];rfl
    ·rw[Mp];rfl
    ·have e1:s.size=s.data.toList.length:=Lib.size_eq _;simp only[bZ,Ht,or_false] at hx;rcases hx with rfl|rfl;·exact⟨yV (by simp only[ByteArray.size,qh];omega),trivial,λ_ _ h=>h⟩
     ·exact⟨DB,trivial,λ_ _ h=>h⟩
   ·cases hg
  ·cases hg
end M
namespace M
open Go Go.RowKit
def adG[B:Bs]{P:Program}{f0:FuncId}(hc:∀(s p:ByteArray) (w:World),
  Calls P f0 #[.string s,.string p] w λe w'=>e=.returned (.bool (Lib.hasPrefix s.data.toList p.data.toList))/\w'=w):(eX f0 DO).Sound P:=
 tW λxs r hg w zl zb cs hx hA hs=>by
  unfold DO at hg;split at hg;·rename_i s c;cases hg;obtain rfl:=Cj hx;refine(hc s c w).mono λe w' ⟨he,hw⟩=>?_;subst hw;exact⟨.bool (Lib.hasPrefix s.data.toList c.data.toList),he,rfl,Below.refl _ _,DB⟩
  ·cases hg
end M
namespace M
open Go Go.RowKit
def jv(l:List (ByteArray×ByteArray)):List UInt8:=l.flatMap λf=>f.1.data.toList++[58,32]++f.2.data.toList++[13,10]
def PT{l:List (ByteArray×ByteArray)}{k:Nat}(h:k<l.length):jv (l.take (k+1))=jv (l.take k)++(l[k].1.data.toList++[58,32]++l[k].2.data.toList++[13,10]):=by unfold jv;rw[oI h,Nc];simp only[jL,Nd,lH]
def adk{l:List (ByteArray×ByteArray)}{k:Nat}(h:k<l.length):(jv (l.take k)).length+l[k].1.size+2+l[k].2.size+2<=(jv l).length:=by
 have e:jv l=jv (l.take (k+1))++jv (l.drop (k+1)):=by unfold jv;rw[<-Nc,T0]
 rw[e,PT h];simp only[iD,cR,kM];have h1:l[k].1.data.toList.length=l[k].1.size:=by rw[xZ];rfl
 have h2:l[k].2.data.toList.length=l[k].2.size:=by rw[xZ];rfl
 omega
def DA(f:aJ):ByteArray×ByteArray:=(⟨f.name.toArray⟩,⟨f.value.toArray⟩)
def PS(l:List aJ):jv (l.map DA)=jb l:=by unfold jv jb;rw[List.flatMap_map];rfl
def ZG:∀{rows:List (List X)} {l:List aJ},qT rows=some l->rows=l.map aK:=by
 intro rows;induction rows with
 |nil=>intro l h;simp[qT] at h;subst h;rfl
 |cons r rows ih=>
  intro l h;match r,h with
  |[.str a,.str b],h=>
   simp only[qT] at h;cases hs:qT rows with
   |none=>rw[hs] at h;simp at h
   |some l'=>rw[hs] at h;simp at h;subst h;rw[ih hs];simp
def ZD[B:Bs]{P:Program}{f0:FuncId}
  (hc:∀(A:Option Addr) (cap:Nat) (fs:List (ByteArray×ByteArray)) (w:World),
   (∀i f,fs[i]?=some f->∃g o,A=some ⟨g,o,none⟩/\g<w.heap.size/\w.cell? ⟨g,o+i*2,none⟩=some (.string f.1)/\w.cell? ⟨g,o+i*2+1,none⟩=some (.string f.2))->
   (jv fs).length<=140737488355328->fs.length<=140737488355328->
   Calls P f0 #[.slice A fs.length cap] w λe w'=>e=.returned (.string ⟨(jv fs).toArray⟩)/\Below w.heap.size w w'):(eX f0 Dt).Sound P:=
 tW λxs r hg w zl zb cs hx hA hs=>by
  unfold Dt at hg;split at hg
  ·rename_i rows;split at hg
   ·rename_i l hl;split at hg
    ·rename_i hh;cases hg;obtain⟨c1,r1,rfl,h1,h2⟩:=map_cons hx;obtain rfl:=map_nil h2;obtain⟨A,len,cap,e,rfl,hlen,hrow⟩:=Zx h1;have hrows:=ZG hl;have td:len=l.length:=by rw[hlen,hrows];simp
     have ok:=hA.ok _ (bF ..);obtain⟨k1,k2,k3,k4,k5⟩:=ok
     have hcell:∀i f,(l.map DA)[i]?=some f->∃g o,(A.map λq=>(⟨q.1,q.2.1,q.2.2⟩:Addr))=some ⟨g,o,none⟩/\g<w.heap.size/\w.cell? ⟨g,o+i*2,none⟩=some (.string f.1)/\w.cell? ⟨g,o+i*2+1,none⟩=some (.string f.2):=by
      intro i f hi;have hi2:i<l.length:=by have:=aF.1 hi;simpa using this.1
      obtain⟨g,o,kR,h0,_⟩:=k2 i 0 (by omega) (by omega);obtain⟨g',o',Qb,h0',_⟩:=k2 i 1 (by omega) (by omega);rw[kR] at Qb;cases Qb;have hr:=hrow i (by omega);rw[hrows,cY,cw hi2] at hr;rw[cY,cw hi2] at hi;simp[List.range_succ,DA] at hr hi;obtain⟨r1,r2⟩:=hr;have q1:=yR r1.symm;have q2:=yR r2.symm;rw[q1] at h0;rw[q2] at h0';subst hi;refine⟨g,o,by rw[kR];rfl,?_,by simpa [C.val] using h0,by simpa [C.val] using h0'⟩;rcases iB g w.heap.size with h|h;·exact h
      ·simp[World.cell?,lI h] at h0
     have key:=hc (A.map λq=>(⟨q.1,q.2.1,q.2.2⟩:Addr)) cap (l.map DA) w hcell (by rw[PS];exact hh.1) (by simpa using hh.2);rw[PS,dx,<-td] at key;refine Calls.mono key λe w' ⟨he,hb⟩=>?_;exact⟨.str ⟨(jb l).toArray⟩,he,rfl,hb,yV (by have:=hh.1;simp only[ByteArray.size,qh];omega)⟩
    ·cases hg
   ·cases hg
  ·cases hg
end M
namespace M
open Go
def cW{β γ ε:Type}(go:Nat->γ->β->γ ⊕ ε):Nat->List β->γ->γ ⊕ ε
 |_,[],g=>.inl g
 |i,b::l,g=>match go i g b with
  |.inl g'=>cW go (i+1) l g'
  |.inr e=>.inr e
def AW{xt:Nat}{β γ ε:Type}{f:ah->cB}(l:List β)(st:Nat->γ->ah)(go:Nat->γ->β->γ ⊕ ε)(E:γ->ah)(R:ε->Ex×ah)(Inv:Nat->γ->Prop)(g:γ)(h0:Inv 0 g)
  (h:∀i b g,l[i]?=some b->i<l.length->Inv i g->f (st i g)=(match go i g b with|.inl g'=>some (.normal,st (i+1) g')|.inr e=>lv (R e)))
  (hI:∀i b g g',l[i]?=some b->Inv i g->go i g b=.inl g'->Inv (i+1) g')
  (hend:∀g,Inv l.length g->f (st l.length g)=some (.exit xt,E g)):
  aG f (st 0 g)=(match cW go 0 l g with|.inl g'=>some (.exit xt,E g')|.inr e=>lv (R e)):=by
 suffices H:∀(r:List β) (i:Nat) (g:γ),Inv i g->l.drop i=r->i<=l.length->aG f (st i g)=(match cW go i r g with|.inl g'=>some (.exit xt,E g')|.inr e=>lv (R e)) from H l 0 g h0 rfl (sB _)
 intro r;induction r with
 |nil=>
  intro i g hi hr hl;have:i=l.length:=by have:=dr List.length hr;simp at this;omega
  subst this;rw[dY,hend g hi];rfl
 |cons b r ih=>
  intro i g hi hr hl
  have hlt:i<l.length:=by
   rcases iB i l.length with h|h;·exact h
   ·rw[Na h] at hr;cases hr
  have hd:=ql hlt;rw[hr] at hd;have hb:l[i]?=some b:=by rw[cw hlt];cases hd;rfl
  have hr':l.drop (i+1)=r:=by cases hd;rfl
  rw[dY,h i b g hb hlt hi];unfold cW;cases hg:go i g b with
  |inl g'=>exact ih (i+1) g' (hI i b g g' hb hi hg) hr' hlt
  |inr e=>rcases hR:R e with ⟨x,s⟩;cases x<;>simp[fq,lv,hR]
def SA{β γ ε:Type}{go:Nat->γ->β->γ ⊕ ε}{g:γ}(r:List β):∀(l:List β) (i:Nat),(∀j (h:j<l.length),go (i+j) g l[j]=.inl g)->cW go i (l++r) g=cW go (i+l.length) r g
 |[],i,_=>by simp
 |b::l,i,h=>by
  have h0:=h 0 (by simp);simp only[nK,HH] at h0;rw[dw,cW,h0];simp only;rw[SA r l (i+1) (λj hj=>by have:=h (j+1) (by simp;omega);simp only[Nj] at this;rw[show i+1+j=i+(j+1) by omega];exact this),cR]
  congr 1;omega
def Sz{β γ ε:Type}(go:Nat->γ->β->γ ⊕ ε)(k:Nat):∀(l:List β) (i:Nat) (g:γ),cW (λj=>go (j+k)) i l g=cW go (i+k) l g
 |[],_,_=>rfl
 |b::l,i,g=>by
  rw[cW,cW];cases go (i+k) g b with
  |inl g'=>simp only;rw[Sz go k l (i+1) g',show i+1+k=i+k+1 by omega]
  |inr e=>rfl
def Lw{β γ ε:Type}{go:Nat->γ->β->γ ⊕ ε}{I:Nat->γ->Prop}{O:ε->Prop}(n:Nat)(h:∀i g b,i<n->I i g->(∀g',go i g b=.inl g'->I (i+1) g')/\∀e,go i g b=.inr e->O e):∀(l:List β) (i:Nat) (g:γ),i+l.length=n->I i g->(∀g',cW go i l g=.inl g'->I n g')/\∀e,cW go i l g=.inr e->O e
 |[],i,g,hn,hg=>by
  have:i=n:=by simpa using hn
  subst this;exact⟨λg' e=>by cases e;exact hg,λe h=>by cases h⟩
 |b::l,i,g,hn,hg=>by
  have h1:=h i g b (by simp at hn;omega) hg;rw[cW];cases gO:go i g b with
  |inl g'=>exact Lw n h l (i+1) g' (by simp at hn;omega) (h1.1 g' gO)
  |inr e=>exact⟨λg' e=>(by cases e),λe he=>(by cases he;exact h1.2 _ gO)⟩
end M
namespace M
open Go
def crlf:ag:=[13,10]
def bh:ag:=[13,10,13,10]
def bN(c:UInt8)(s:ag):Prop:=∀b∈s,b≠c
def jY{c:UInt8}{s t:ag}:bN c (s++t)↔bN c s/\bN c t:=by
 unfold bN;constructor;·intro h;exact⟨λb hb=>h b (MO _ hb),λb hb=>h b (MP _ hb)⟩
 ·intro h b hb;rcases gG.1 hb with hb|hb;·exact h.1 b hb
  ·exact h.2 b hb
def tX{c b:UInt8}{s:ag}:bN c (b::s)↔b≠c/\bN c s:=by simp[bN]
def EP(c:UInt8)(t:ag):∀(l r:ag),bN c l->Lib.index (l++r) (c::t)=if Lib.index r (c::t)=-1 then -1 else Lib.index r (c::t)+l.length
 |[],r,_=>by simp only[eN,kM];split<;>simp_all
 |b::l,r,h=>by
  rw[tX] at h;have ih:=EP c t l r h.2;have hge:=Lib.index_ge r (c::t);rw[dw,Lib.index,ih];have hcb:(c==b)=false:=by simp;exact λe=>h.1 e.symm
  have hp:(c::t).isPrefixOf (b::(l++r))=false:=by simp[List.isPrefixOf,hcb]
  rw[hp];simp only[fL,cT,cR];by_cases g:Lib.index r (c::t)=-1;·simp[g]
  ·have g2:¬(Lib.index r (c::t)+l.length=-1):=by omega
   simp only[g,cT,ew,g2];omega
def aev(c:UInt8)(t:ag)(l:ag)(h:bN c l):Lib.index l (c::t)=-1:=by have:=EP c t l [] h;rw[lH] at this;rw[this];rfl
def Kg(c:UInt8)(t:ag)(l r:ag)(h:bN c l):Lib.index (l++(c::t++r)) (c::t)=l.length:=by
 have h0:Lib.index (c::t++r) (c::t)=0:=by rw[dw,Lib.index,ay (by simp)]
 rw[EP c t l _ h,h0];simp
def O2(c:UInt8)(t:ag)(l r:ag)(h:bN c l):Lib.cut (l++(c::t++r)) (c::t)=(l,r,true):=by
 unfold Lib.cut;rw[Kg c t l r h,ay (by omega)];have e1:((l.length:Int)).toNat=l.length:=by omega
 rw[e1,CD];have e2:l++(c::t++r)=(l++c::t)++r:=by simp
 have e3:l.length+(c::t).length=(l++c::t).length:=by simp
 rw[e2,e3,uQ]
def ahx(c:UInt8)(t:ag)(n:Nat)(l:ag)(h:bN c l):Lib.splitK (c::t) 0 n l=[l]:=by
 cases n with
 |zero=>rfl
 |succ n=>rw[Lib.splitK,aev c t l h];rfl
def ahB(c:UInt8)(t:ag)(l:ag)(h:bN c l):Lib.split l (c::t)=[l]:=ahx c t _ l h
def ahz(c:UInt8)(t:ag)(l r:ag)(h:bN c l):Lib.split (l++(c::t++r)) (c::t)=l::Lib.split r (c::t):=by
 have hi:=Kg c t l r h;have e2:l++(c::t++r)=(l++c::t)++r:=by simp
 have e3:l.length+(c::t).length=(l++c::t).length:=by simp
 have hd:(l++(c::t++r)).drop (l.length+(c::t).length)=r:=by rw[e2,e3,uQ]
 have hc:=Lib.count_hit (s:=l++(c::t++r)) (sub:=c::t) (by simp) hi;rw[hd] at hc;unfold Lib.split;rw[hc,qi,Lib.splitK,hi];have g:¬(((l.length:Int))==-1)=true:=by simp
 rw[aD g];have e1:((l.length:Int)).toNat=l.length:=by omega
 rw[e1,hd,nK,CD]
def lines:List ag->ag
 |[]=>[]
 |[l]=>l
 |l::k::ls=>l++(crlf++lines (k::ls))
def Rf:∀(ls:List ag),ls≠[]->(∀l∈ls,bN 13 l)->Lib.split (lines ls) crlf=ls
 |[l],_,h=>ahB 13 [10] l (h l (bF ..))
 |l::k::ls,_,h=>by have ih:=Rf (k::ls) (by simp) λx hx=>h x (b8 _ hx);have:=ahz 13 [10] l (lines (k::ls)) (h l (bF ..));show Lib.split (l++(crlf++lines (k::ls))) crlf=_;rw[show crlf=13::[10] from rfl,this];rw[show (13::[10]:ag)=crlf from rfl,ih]
def afa:∀(ls:List ag),ls≠[]->(∀l∈ls,l≠[])->(∀l∈ls,bN 13 l)->∃b t,lines ls=b::t/\b≠13
 |[l],_,h,h2=>by obtain⟨b,t,e⟩:=Ub (h l (bF ..));exact⟨b,t,e,h2 l (bF ..) b (by rw[e];exact bF ..)⟩
 |l::k::ls,_,h,h2=>by obtain⟨b,t,e⟩:=Ub (h l (bF ..));exact⟨b,t++(crlf++lines (k::ls)),by show l++_=_;rw[e];rfl,h2 l (bF ..) b (by rw[e];exact bF ..)⟩
def Re(b:ag):∀(ls:List ag),ls≠[]->(∀l∈ls,l≠[])->(∀l∈ls,bN 13 l)->Lib.index (lines ls++(bh++b)) bh=(lines ls).length
 |[l],_,h,h2=>Kg 13 [10,13,10] l b (h2 l (bF ..))
 |l::k::ls,_,h,h2=>by
  have hk:∀x∈k::ls,x≠[]:=λx hx=>h x (b8 _ hx);have hk2:∀x∈k::ls,bN 13 x:=λx hx=>h2 x (b8 _ hx);have ih:=Re b (k::ls) (by simp) hk hk2;obtain⟨c,t,e,hc⟩:=afa (k::ls) (by simp) hk hk2;have e0:lines (l::k::ls)++(bh++b)=l++(13::10::(lines (k::ls)++(bh++b))):=by show (l++(crlf++lines (k::ls)))++(bh++b)=_;simp[crlf]
  have e1:(lines (l::k::ls)).length=l.length+2+(lines (k::ls)).length:=by show (l++(crlf++lines (k::ls))).length=_;simp[crlf];omega
  have hcb:((13:UInt8)==c)=false:=by simp;exact λe=>hc e.symm
  have p1:bh.isPrefixOf (13::10::(lines (k::ls)++(bh++b)))=false:=by rw[e];simp[bh,List.isPrefixOf,hcb]
  have p2:bh.isPrefixOf (10::(lines (k::ls)++(bh++b)))=false:=by simp[bh,List.isPrefixOf]
  have e2:Lib.index (13::10::(lines (k::ls)++(bh++b))) bh=(lines (k::ls)).length+2:=by
   rw[Lib.index,p1,Lib.index,p2,ih];have q1:¬(((lines (k::ls)).length:Int)==-1)=true:=by simp
   simp only[fL,cT,q1];have q2:¬(((lines (k::ls)).length:Int)+1==-1)=true:=by simp;omega
   simp only[q2];simp;omega
  rw[e0,show bh=13::[10,13,10] from rfl,EP 13 [10,13,10] l _ (h2 l (bF ..)),show (13::[10,13,10]:ag)=bh from rfl,e2,e1,aD (by omega)];omega
def ae9(b:ag)(ls:List ag)(h0:ls≠[])(h:∀l∈ls,l≠[])(h2:∀l∈ls,bN 13 l):Lib.cut (lines ls++(bh++b)) bh=(lines ls,b,true):=by
 unfold Lib.cut;rw[Re b ls h0 h h2,ay (by omega)];have e1:(((lines ls).length:Int)).toNat=(lines ls).length:=by omega
 have e2:lines ls++(bh++b)=(lines ls++bh)++b:=by simp
 have e3:(lines ls).length+bh.length=(lines ls++bh).length:=by simp
 rw[e1,CD,e3,e2,uQ]
def oc:ag:=[72,84,84,80,47,49,46,49]
def ig(f:aJ):ag:=f.name++([58,32]++f.value)
def DC(fs:List aJ):ag:=fs.flatMap λf=>ig f++crlf
def jX(b:ag):ag:=dG++([58,32]++aX b.length)
def kE(r:cg):ag:=oc++32::(aX r.status.toNat++[32,46])
def gb(r:cg):List ag:=kE r::(r.fields.map ig++[jX r.body])
def ga(r:cg):ag:=lines (gb r)++(bh++r.body)
def fQ(r:cg):ag:=if fP r=true then ga r else []
def adi(fs:List aJ):jb fs=DC fs:=by unfold jb DC;congr 1;funext f;simp[qQ,ig,crlf]
def ae8(fs:List aJ)(l z:ag):lines (l::(fs.map ig++[z]))=l++(crlf++(DC fs++z)):=by
 induction fs generalizing l with
 |nil=>rfl
 |cons f fs ih=>show l++(crlf++lines (ig f::(fs.map ig++[z])))=_;rw[ih];simp[DC]
def Ss(r:cg):ga r=kE r++(crlf++(jb r.fields++(jX r.body++(bh++r.body)))):=by unfold ga gb;rw[ae8,adi];simp
def qM(c:UInt8)(hc:c.toNat<48\/57<c.toNat)(n:Nat):bN c (aX n):=by intro b hb e;have:=iX.1 (I1 n) b hb;simp only[ic,bz] at this;subst e;omega
def GY(c:UInt8)(hc:sj c=false){s:ag}(h:eC s=true):bN c s:=by intro b hb e;unfold eC at h;simp only[aA] at h;have:=iX.1 h.1 b hb;rw[e,hc] at this;cases this
def ahU{s:ag}(h:eC s=true):s≠[]:=by rintro rfl;simp[eC] at h
def Mu(c:UInt8)(hc:iU 32 c=false){s:ag}(h:fR s=true):bN c s:=by intro b hb e;unfold fR at h;simp only[aA] at h;have:=iX.1 h.1.1 b hb;rw[e,hc] at this;cases this
def Du{fs:List aJ}(h:jt fs=true){f:aJ}(hf:f∈fs):eC f.name=true/\fR f.value=true/\f.name≠dG:=by unfold jt at h;simp only[aA] at h;obtain⟨i,hi,rfl⟩:=yl hf;have:=iX.1 h.1 (fs[i],i) (lE (i:=i) (by simp[hi]));unfold ju at this;simp only[aA,yb,T6] at this;exact⟨this.1.1.1,this.1.1.2,this.2⟩
def Pm{fs:List aJ}(h:jt fs=true):fs.length<=8:=by unfold jt at h;simp only[aA,bz] at h;omega
def ZB{f:aJ}(h1:eC f.name=true)(h2:fR f.value=true):bN 13 (ig f)/\bN 10 (ig f)/\ig f≠[]:=by
 refine⟨?_,?_,?_⟩;·unfold ig;rw[jY,jY];exact⟨GY 13 (by decide) h1,by simp[bN],Mu 13 (by decide) h2⟩
 ·unfold ig;rw[jY,jY];exact⟨GY 10 (by decide) h1,by simp[bN],Mu 10 (by decide) h2⟩
 ·have:=ahU h1;simp[ig]
def ae2(b:ag):bN 13 (jX b)/\bN 10 (jX b)/\jX b≠[]:=by
 refine⟨?_,?_,by simp[jX]⟩;·unfold jX;rw[jY,jY];exact⟨by simp[bN,dG],by simp[bN],qM 13 (by decide) _⟩
 ·unfold jX;rw[jY,jY];exact⟨by simp[bN,dG],by simp[bN],qM 10 (by decide) _⟩
def ahd(r:cg):bN 13 (kE r)/\bN 10 (kE r)/\kE r≠[]:=by
 refine⟨?_,?_,by simp[kE,oc]⟩;·unfold kE;rw[jY,tX,jY];exact⟨by simp[bN,oc],by decide,qM 13 (by decide) _,by simp[bN]⟩
 ·unfold kE;rw[jY,tX,jY];exact⟨by simp[bN,oc],by decide,qM 10 (by decide) _,by simp[bN]⟩
def Sw{r:cg}(h:jt r.fields=true):∀l∈gb r,bN 13 l/\bN 10 l/\l≠[]:=by
 intro l hl;unfold gb at hl;simp only[bZ,gG,bp,Ht,or_false] at hl;rcases hl with rfl|⟨f,hf,rfl⟩|rfl;·exact ahd r
 ·have:=Du h hf;exact ZB this.1 this.2.1
 ·exact ae2 r.body
end M
namespace M
open Go
open Classical in
noncomputable def mj{α:Type}(body:α->ag)(ok:α->Bool)(z:α)(s:ag):α×Bool:=
 if h:∃r,ok r=true/\body r=s then (h.choose,true) else (z,false)
def FW{α:Type}{body:α->ag}{ok:α->Bool}{z:α}{cand:ag->Option α}(hc:∀r,ok r=true->cand (body r)=some r)(s:ag):
  mj body ok z s=match cand s with
   |some r=>if ok r=true/\body r=s then (r,true) else (z,false)
   |none=>(z,false):=by
 unfold mj;by_cases h:∃r,ok r=true/\body r=s;·rw[nN h];have h1:=h.choose_spec;have h2:=hc _ h1.1;rw[h1.2] at h2;rw[h2];simp only;rw[ay h1]
 ·rw[uM h];cases hs:cand s with
  |none=>rfl
  |some r=>simp only;rw[aD];exact λhr=>h ⟨r,hr⟩
def Sd{α:Type}{body:α->ag}{ok:α->Bool}{z:α}{s:ag}(h:(mj body ok z s).2=true):ok (mj body ok z s).1=true/\body (mj body ok z s).1=s:=by
 unfold mj at h⊢;by_cases g:∃r,ok r=true/\body r=s;·rw[nN g];exact g.choose_spec
 ·rw[uM g] at h;cases h
def Sc{α:Type}{body:α->ag}{ok:α->Bool}{z:α}{s:ag}(h:(mj body ok z s).2=false):mj body ok z s=(z,false):=by
 unfold mj at h⊢;by_cases g:∃r,ok r=true/\body r=s;·rw[nN g] at h;cases h
 ·rw[uM g]
def Sb{α:Type}{body:α->ag}{ok:α->Bool}{z:α}{cand:ag->Option α}(hc:∀r,ok r=true->cand (body r)=some r){r:α}(h:ok r=true):mj body ok z (body r)=(r,true):=by rw[FW hc,hc r h];simp only;rw[ay ⟨h,trivial⟩]
def WC{α:Type}{body:α->ag}{ok:α->Bool}{cand:ag->Option α}(hc:∀r,ok r=true->cand (body r)=some r){a b:α}(ha:ok a=true)(hb:ok b=true)(h:body a=body b):a=b:=by have h1:=hc a ha;rw[h,hc b hb] at h1;exact(gZ h1).symm
def colon:ag:=[58,32]
def lT:List ag->Option (List aJ)
 |[]=>some []
 |l::ls=>if (Lib.cut l colon).2.2=true then (if ls=[]/\(Lib.cut l colon).1=dG then some [] else (lT ls).map λfs=>⟨(Lib.cut l colon).1,(Lib.cut l colon).2.1⟩::fs) else none
def lf(s:ag):Option (ag×List aJ×ag):=
 if (Lib.cut s bh).2.2=true/\((Lib.split (Lib.cut s bh).1 crlf).length:Int)<=10 then (lT (Lib.split (Lib.cut s bh).1 crlf).tail).map λfs=>((Lib.split (Lib.cut s bh).1 crlf).headD [],fs,(Lib.cut s bh).2.1)
 else none
def kF(ws:List ag):Option ag:=match ws with
 |[_,w,_]=>some w
 |_=>none
def ow(s:ag):Option cg:=(lf s).bind λp=>(kF (bu 32 p.1)).map λw=>⟨(((bq w).getD 0:Nat):Int),p.2.1,p.2.2⟩
def cu:cg:=⟨0,[],[]⟩
noncomputable def cS(s:ag):cg×Bool:=mj ga fP cu s
def B9(w r:ag)(h:bN 32 w):bu 32 (w++32::r)=w::bu 32 r:=by rw[B7 32 w _ h];simp[bu]
def Sv(r:cg):bu 32 (kE r)=[oc,aX r.status.toNat,[46]]:=by unfold kE;rw[B9 _ _ (by simp[bN,oc]),show ([32,46]:ag)=32::[46] from rfl,B9 _ _ (qM 32 (by decide) _),L9 32 [46] (by simp)]
def PC(b:ag):∀(fs:List aJ),(∀f∈fs,eC f.name=true/\fR f.value=true/\f.name≠dG)->lT (fs.map ig++[jX b])=some fs
 |[],_=>by have:Lib.cut (jX b) colon=(dG,aX b.length,true):=O2 58 [32] dG (aX b.length) (by simp[bN,dG]);simp[lT,this]
 |f::fs,h=>by have hf:=h f (bF ..);have ih:=PC b fs λx hx=>h x (b8 _ hx);have:Lib.cut (ig f) colon=(f.name,f.value,true):=O2 58 [32] f.name f.value (GY 58 (by decide) hf.1);simp only[bD,dw,lT,this,ih];simp
def Lo{r:cg}(h:fP r=true):(100<=r.status/\r.status<=599)/\jt r.fields=true/\r.body.length<=120:=by unfold fP at h;simp only[aA,bz] at h;exact⟨h.1.1,h.1.2,by omega⟩
def Lu{r:cg}(h:fP r=true):ow (ga r)=some r:=by
 obtain⟨hs,hf,hb⟩:=Lo h;have hl:=Sw hf;have hne:gb r≠[]:=by simp[gb]
 have hc:=ae9 r.body (gb r) hne (λl h=>(hl l h).2.2) (λl h=>(hl l h).1);have hsp:=Rf (gb r) hne (λl h=>(hl l h).1);have hlen:=Pm hf;have hp:lf (ga r)=some (kE r,r.fields,r.body):=by unfold lf ga;rw[hc];simp only;rw[hsp,ay ⟨trivial,by simp[gb];omega⟩];have ht:(gb r).tail=r.fields.map ig++[jX r.body]:=rfl;rw[ht,PC r.body r.fields λf hf'=>Du hf hf'];rfl
 unfold ow;rw[hp];simp only[gj];rw[Sv];have hn:bq (aX r.status.toNat)=some r.status.toNat:=mc.2 ⟨by omega,rfl⟩;simp only[kF,cj,hn,uL];have:((r.status.toNat:Nat):Int)=r.status:=by omega
 rw[this]
def F3{r:cg}{s:ag}(hs:s≠[]):fQ r=s↔fP r=true/\ga r=s:=by
 unfold fQ;constructor
 ·intro h;split at h;·rename_i g;exact⟨g,h⟩
  ·exact absurd h.symm hs
 ·rintro ⟨g,h⟩;rw[ay g,h]
def Su(r:cg):ga r≠[]:=by rw[Ss];simp[kE,oc]
def Lq(r:cg):fQ r=[]↔¬fP r=true:=by unfold fQ;have:=Su r;split<;>simp_all
def ag4(s:ag):cS s=match ow s with
  |some r=>if fQ r=s/\s≠[] then (r,true) else (cu,false)
  |none=>(cu,false):=by
 unfold cS;rw[FW (cand:=ow) (λr h=>Lu h) s];cases ow s with
 |none=>rfl
 |some r=>
  simp only;by_cases hs:s=[];·subst hs;rw[aD (λh=>Su r h.2),aD (by simp)]
  ·by_cases g:fQ r=s;·rw[ay ((F3 hs).1 g),ay ⟨g,hs⟩]
   ·rw[aD (mt (F3 hs).2 g),aD (λh=>g h.1)]
def nw:ag:=[111,98,106]
def rQ(o:Ob):ag:=nw++32::(o.path++32::(eM o.t++32::aX o.values.length))
def iT(l:List ag):ag:=l.flatMap λv=>v++[10]
def me(o:Ob):ag:=rQ o++10::(iT o.values++ga o.resp)
def eY(o:Ob):ag:=if cO o=true then me o else []
def cX:Ob:=⟨[],[],[],cu,0⟩
noncomputable def gU(s:ag):Ob×Bool:=mj me cO cX s
def fU(s:ag):ag×ag:=(cH 10 s).getD (s,[])
def eu:Nat->ag->List ag×ag
 |0,s=>([],s)
 |n+1,s=>((fU s).1::(eu n (fU s).2).1,(eu n (fU s).2).2)
def lD(ws:List ag):Option (ag×ag×ag):=match ws with
 |[_,p,t,n]=>some (p,t,n)
 |_=>none
def IZ(p r:ag)(h:bN 10 p):cH 10 (p++10::r)=some (p,r):=by
 induction p with
 |nil=>simp[cH]
 |cons b p ih=>rw[tX] at h;rw[dw,cH,aD h.1,ih h.2];rfl
def O0(p r:ag)(h:bN 10 p):fU (p++10::r)=(p,r):=by unfold fU;rw[IZ p r h];rfl
def S4(r:ag):∀(l:List ag),(∀v∈l,bN 10 v)->eu l.length (iT l++r)=(l,r)
 |[],_=>rfl
 |v::l,h=>by
  have e:iT (v::l)++r=v++10::(iT l++r):=by simp[iT]
  rw[e,cR,eu,O0 v _ (h v (bF ..)),S4 r l λx hx=>h x (b8 _ hx)]
def Ts(c:UInt8){lo:Nat}(hc:iU lo c=false){s:ag}(h:aM (iU lo) s=true):bN c s:=by intro b hb e;have:=iX.1 h b hb;rw[e,hc] at this;cases this
def R1{s:ag}(h:gV s=true):bN 32 s/\bN 10 s:=by unfold gV at h;simp only[aA] at h;exact⟨Ts 32 (by decide) h.1.1,Ts 10 (by decide) h.1.1⟩
def RD(c:UInt8)(hc:c.toNat<48\/57<c.toNat)(n:Int):bN c (eM n):=by
 unfold eM;split;·exact qM c hc _
 ·simp[bN]
structure yt (o:Ob):Prop where
 resp:fP o.resp=true
 path:gV o.path=true
 t0:0<=o.t
 t1:o.t<=1000000
 names:w6 o.names=true
 Tp:o.names=gF o.resp.fields
 len:o.values.length=o.names.length
 n4:o.names.length<=4
 vals:∀v∈o.values,fR v=true
def Bb{o:Ob}(h:cO o=true):yt o:=by
 unfold cO at h;simp only[aA,bz] at h;have hn:o.names.length<=4:=by have:=h.1.1.1.2;unfold w6 at this;simp only[aA,bz] at this;omega
 obtain⟨⟨⟨⟨⟨⟨h1,h2⟩,h3,h4⟩,h5⟩,h6⟩,h7⟩,h8⟩:=h;exact⟨h1,h2,h3,h4,h5,h6,by omega,hn,λv hv=>iX.1 h8 v hv⟩
def RG{o:Ob}(h:yt o):bu 32 (rQ o)=[nw,o.path,eM o.t,aX o.values.length]:=by unfold rQ;rw[B9 _ _ (by simp[bN,nw]),B9 _ _ (R1 h.path).1,B9 _ _ (RD 32 (by decide) _),L9 32 _ (qM 32 (by decide) _)]
def RF{o:Ob}(h:yt o):bN 10 (rQ o):=by unfold rQ;rw[jY,tX,jY,tX,jY,tX];exact⟨by simp[bN,nw],by decide,(R1 h.path).2,by decide,RD 10 (by decide) _,by decide,qM 10 (by decide) _⟩
def Tn{o:Ob}(h:yt o):∀v∈o.values,bN 10 v:=λv hv=>Mu 10 (by decide) (h.vals v hv)
noncomputable def Bc(p:ag)(t n:Nat)(b:ag):Option Ob:=if n<=4 then (if (cS (eu n b).2).2=true then some ⟨p,gF (cS (eu n b).2).1.fields,(eu n b).1,(cS (eu n b).2).1,t⟩ else none) else none
noncomputable def tY(s:ag):Option Ob:=(lD (bu 32 (fU s).1)).bind λw=>(bq w.2.1).bind λt=>(bq w.2.2).bind λn=>Bc w.1 t n (fU s).2
def afV{o:Ob}(h:yt o):Bc o.path o.t.toNat o.values.length (iT o.values++ga o.resp)=some o:=by
 have h1:=S4 (ga o.resp) o.values (Tn h);have h2:cS (ga o.resp)=(o.resp,true):=Sb (cand:=ow) (λr h=>Lu h) h.resp;unfold Bc;have hl:=h.len;have h4:=h.n4;rw[ay (by omega),h1];simp only;rw[h2,ay rfl];simp only;have ht:((o.t.toNat:Nat):Int)=o.t:=by have:=h.t0;omega
 rw[ht,<-h.Tp]
def RE{o:Ob}(ho:cO o=true):tY (me o)=some o:=by
 have h:=Bb ho;unfold tY me;rw[O0 _ _ (RF h)];simp only;rw[RG h];have h0:=h.t0;have h1:=h.t1;have hl:=h.len;have h4:=h.n4
 have hn:bq (eM o.t)=some o.t.toNat:=by
  have e:o.t=((o.t.toNat:Nat):Int):=by omega
  rw[e,RC _ (by omega)];simp;omega
 have hd:bq (aX o.values.length)=some o.values.length:=mc.2 ⟨by omega,rfl⟩;simp only[lD,gj,hn,hd];exact afV h
def afO(o:Ob):me o≠[]:=by simp[me,rQ,nw]
def RM{o:Ob}{s:ag}(hs:s≠[]):eY o=s↔cO o=true/\me o=s:=by
 unfold eY;constructor
 ·intro h;split at h;·rename_i g;exact⟨g,h⟩
  ·exact absurd h.symm hs
 ·rintro ⟨g,h⟩;rw[ay g,h]
def RL(o:Ob):eY o=[]↔¬cO o=true:=by unfold eY;have:=afO o;split<;>simp_all
def RH{cand:ag->Option Ob}(hc:∀o,cO o=true->cand (me o)=some o)(hn:cand []=none)(s:ag):gU s=match cand s with
  |some o=>if eY o=s then (o,true) else (cX,false)
  |none=>(cX,false):=by
 unfold gU;rw[FW (cand:=cand) hc s];cases hs:cand s with
 |none=>rfl
 |some o=>
  simp only;have hs0:s≠[]:=by rintro rfl;rw[hn] at hs;cases hs
  by_cases g:eY o=s;·rw[ay ((RM hs0).1 g),ay g]
  ·rw[aD (mt (RM hs0).2 g),aD g]
def afP:tY []=none:=by simp[tY,fU,cH,bu,lD]
def afQ(s:ag):gU s=match tY s with
  |some o=>if eY o=s then (o,true) else (cX,false)
  |none=>(cX,false):=RH (λo h=>RE h) afP s
end M
namespace M
open Go
def gN(s:ag)(i:Nat)(g:List ag×Nat)(b:UInt8):(List ag×Nat) ⊕ (List ag×Nat):=
 if b=10/\1<=i/\s[i - 1]?=some 13/\g.2+1<=i then
  (if (s.take (i - 1)).drop g.2=[] then .inr (g.1,i+1) else .inl (g.1++[(s.take (i - 1)).drop g.2],i+1))
 else .inl g
def oZ(s:ag):(List ag×Nat) ⊕ (List ag×Nat):=cW (λj=>gN s (j+1)) 0 (s.drop 1) ([],0)
def iq(s:ag):List ag:=match oZ s with|.inl g=>g.1|.inr g=>g.1
def kV(s:ag):Int:=match oZ s with|.inl g=>-1|.inr g=>g.2
def Qq(s:ag):oZ s=cW (gN s) 0 s ([],0):=by
 unfold oZ;rw[Sz (gN s) 1];cases s with
 |nil=>rfl
 |cons b s=>
  rw[cW];have:gN (b::s) 0 ([],0) b=.inl ([],0):=by unfold gN;rw[aD (by omega)]
  rw[this];rfl
def JD(s A l R:ag)(out:List ag)(hs:s=A++(l++(crlf++R)))(hl:bN 13 l):
  cW (gN s) A.length (l++(crlf++R)) (out,A.length)=if l=[] then .inr (out,A.length+2) else cW (gN s) (A.length+l.length+2) R (out++[l],A.length+l.length+2):=by
 rw[SA (crlf++R) l A.length (λj hj=>by
  unfold gN;rw[aD];rintro ⟨h1,h2,h3,h4⟩;simp only at h4;have hj0:0<j:=by omega
  rw[hs,iC (by omega),nO (by omega)] at h3;exact hl 13 (lE h3) rfl)]
 have g1:gN s (A.length+l.length) (out,A.length) 13=.inl (out,A.length):=by unfold gN;rw[aD];rintro ⟨h1,_⟩;exact absurd h1 (by decide)
 have e1:s[A.length+l.length]?=some 13:=by
  rw[hs,iC (by omega),iC (by omega)];have:A.length+l.length - A.length - l.length=0:=by omega
  rw[this];rfl
 have e2:(s.take (A.length+l.length)).drop A.length=l:=by
  have:s=(A++l)++(crlf++R):=by rw[hs];simp
  rw[this,show A.length+l.length=(A++l).length by simp,CD,uQ]
 have g2:gN s (A.length+l.length+1) (out,A.length) 10=if l=[] then .inr (out,A.length+l.length+2) else .inl (out++[l],A.length+l.length+2):=by
  unfold gN;have e3:A.length+l.length+1 - 1=A.length+l.length:=by omega
  rw[e3,ay ⟨rfl,by omega,e1,by simp only;omega⟩];simp only;rw[e2]
 show cW (gN s) (A.length+l.length) (13::10::R) (out,A.length)=_;rw[cW,g1];simp only;rw[cW,g2];by_cases h:l=[];·subst h;simp
 ·simp only[h,cT]
def Qs(s b:ag):∀(ls:List ag) (A:ag) (out:List ag),ls≠[]->(∀l∈ls,l≠[])->(∀l∈ls,bN 13 l)->s=A++(lines ls++(bh++b))->
  cW (gN s) A.length (lines ls++(bh++b)) (out,A.length)=.inr (out++ls,A.length+(lines ls).length+4)
 |[l],A,out,_,h,h2,hs=>by
  have e:lines [l]++(bh++b)=l++(crlf++([]++(crlf++b))):=by simp[lines,bh,crlf]
  rw[e] at hs⊢;have h0:l≠[]:=h l (bF ..);rw[JD s A l _ out hs (h2 l (bF ..)),aD h0];have e2:A.length+l.length+2=(A++l++crlf).length:=by simp[crlf];omega
  rw[e2,JD s (A++l++crlf) [] b _ (by rw[hs];simp) (by simp[bN]),ay rfl];simp[crlf,lines];omega
 |l::k::ls,A,out,_,h,h2,hs=>by
  have e:lines (l::k::ls)++(bh++b)=l++(crlf++(lines (k::ls)++(bh++b))):=by show (l++(crlf++lines (k::ls)))++(bh++b)=_;simp
  rw[e] at hs⊢;have h0:l≠[]:=h l (bF ..);rw[JD s A l _ out hs (h2 l (bF ..)),aD h0];have e2:A.length+l.length+2=(A++l++crlf).length:=by simp[crlf];omega
  rw[e2,Qs s b (k::ls) (A++l++crlf) (out++[l]) (by simp) (λx hx=>h x (b8 _ hx)) (λx hx=>h2 x (b8 _ hx)) (by rw[hs];simp)];have e3:(lines (l::k::ls)).length=l.length+2+(lines (k::ls)).length:=by show (l++(crlf++lines (k::ls))).length=_;simp[crlf];omega
  rw[e3];simp[crlf];omega
def adR(ls:List ag)(b:ag)(h0:ls≠[])(h:∀l∈ls,l≠[])(h2:∀l∈ls,bN 13 l):oZ (lines ls++(bh++b))=.inr (ls,(lines ls).length+4):=by have:=Qs (lines ls++(bh++b)) b ls [] [] h0 h h2 rfl;rw[Qq];simpa using this
def Qr(s:ag):wL wS (iq s)<=s.length/\kV s<=s.length/\-1<=kV s:=by
 have H:=Lw (go:=gN s) (I:=λi g=>wL wS g.1<=g.2/\g.2<=i) (O:=λg=>wL wS g.1<=g.2/\g.2<=s.length) s.length (λi g b hi hg=>by
  unfold gN;by_cases hc:b=10/\1<=i/\s[i - 1]?=some 13/\g.2+1<=i
  ·rw[ay hc];by_cases hl:(s.take (i - 1)).drop g.2=[];·rw[ay hl];exact⟨λg' h=>(by cases h),λe h=>(by cases h;simp only;omega)⟩
   ·rw[aD hl];refine⟨λg' h=>?_,λe h=>(by cases h)⟩;cases h;simp only;have e:wL wS (g.1++[(s.take (i - 1)).drop g.2])=wL wS g.1+1+((s.take (i - 1)).drop g.2).length:=by simp[wL,wS];omega
    have e2:((s.take (i - 1)).drop g.2).length=i - 1 - g.2:=by simp;omega
    rw[e,e2];omega
  ·rw[aD hc];exact⟨λg' h=>(by cases h;omega),λe h=>(by cases h)⟩) s 0 ([],0) (by simp) (by simp[wL])
 rw[<-Qq] at H;unfold iq kV;cases hr:oZ s with
 |inl g=>have:=H.1 g hr;simp only;omega
 |inr g=>have:=H.2 g hr;simp only;omega
def qK(x:UInt8×UInt8):Bool:=decide (x.1=58) && decide (x.2=32)
def sX(l:ag):Option (Nat×(UInt8×UInt8)):=cU qK 0 (l.zip (l.drop 1))
def gS(l:ag):List aJ:=match sX l with
 |some (k,_)=>if l.take k=dG then [] else [⟨l.take k,l.drop (k+2)⟩]
 |none=>[]
def Pw{β:Type}{p:β->Bool}:∀(l:List β) (k i:Nat) (b:β),l[i]?=some b->p b=true->(∀j,j<i->∀c,l[j]?=some c->p c=false)->cU p k l=some (k+i,b)
 |[],k,i,b,h,_,_=>by simp at h
 |a::l,k,0,b,h,hp,_=>by simp at h;subst h;simp[cU,hp]
 |a::l,k,i+1,b,h,hp,hj=>by have h0:=hj 0 (by omega) a (by simp);rw[HG] at h;have ih:=Pw l (k+1) i b h hp λj hj' c hc=>hj (j+1) (by omega) c (by simpa using hc);simp only[cU,h0,fL,cT,ih];congr 2;omega
def YZ(n v:ag)(h:bN 58 n):sX (n++([58,32]++v))=some (n.length,(58,32)):=by
 unfold sX
 have:=Pw (p:=qK) ((n++([58,32]++v)).zip ((n++([58,32]++v)).drop 1)) 0 n.length (58,32) (by
  rw[Ni];constructor;·rw[iC (by omega)];simp
  ·rw[oL,iC (by omega)];have:1+n.length - n.length=1:=by omega
   rw[this];rfl) (by decide) (λj hj c hc=>by
  have h1:=(Ni.1 hc).1;rw[nO hj] at h1;have:=h c.1 (lE h1);simp[qK,this])
 rw[this];simp
def Rc{f:aJ}(h:bN 58 f.name):gS (ig f)=if f.name=dG then [] else [f]:=by
 unfold gS ig;rw[YZ _ _ h];simp only;have e1:(f.name++([58,32]++f.value)).take f.name.length=f.name:=CD
 have e2:(f.name++([58,32]++f.value)).drop (f.name.length+2)=f.value:=by
  have:f.name++([58,32]++f.value)=(f.name++[58,32])++f.value:=by simp
  rw[this,show f.name.length+2=(f.name++[58,32]).length by simp,uQ]
 rw[e1,e2]
def ae4(b:ag):gS (jX b)=[]:=by have:=Rc (f:=⟨dG,aX b.length⟩) (by simp[bN,dG]);simp only[cG] at this;exact this
def ae6(b:ag)(fs:List aJ)(h:∀f∈fs,eC f.name=true/\fR f.value=true/\f.name≠dG):(fs.map ig++[jX b]).flatMap gS=fs:=by
 induction fs with
 |nil=>simp[ae4]
 |cons f fs ih=>have hf:=h f (bF ..);have ih:=ih λx hx=>h x (b8 _ hx);rw[bD,dw,jL,Rc (GY 58 (by decide) hf.1),aD hf.2.2,ih];rfl
def ae5(l:ag):wL aN (gS l)<=l.length+1:=by
 unfold gS;cases hc:sX l with
 |none=>simp[wL]
 |some x=>
  simp only;split;·simp[wL]
  ·simp[wL,aN];omega
def ae7(ls:List ag):wL aN (ls.flatMap gS)<=wL wS ls:=by
 induction ls with
 |nil=>simp[wL]
 |cons l ls ih=>have h:=ae5 l;simp only[wL,jL,iD,jq,CC,cR,bD,sx,wS] at*;omega
def ox(s:ag):Option cg:=if 0<=kV s/\iq s≠[] then (kF (bu 32 ((iq s).headD []))).map λw=>⟨(((bq w).getD 0:Nat):Int),(iq s).tail.flatMap gS,s.drop (kV s).toNat⟩ else none
def ahe{r:cg}(h:fP r=true):ox (ga r)=some r:=by
 obtain⟨hs,hf,hb⟩:=Lo h;have hl:=Sw hf;have hne:gb r≠[]:=by simp[gb]
 have hr:=adR (gb r) r.body hne (λl h=>(hl l h).2.2) (λl h=>(hl l h).1);have e1:iq (ga r)=gb r:=by unfold iq ga;rw[hr]
 have e2:kV (ga r)=(((lines (gb r)).length+4:Nat):Int):=by unfold kV ga;rw[hr]
 unfold ox;rw[e1,e2,ay ⟨by omega,hne⟩];have e3:(gb r).headD []=kE r:=rfl;have e4:(gb r).tail=r.fields.map ig++[jX r.body]:=rfl
 have e5:(ga r).drop (((lines (gb r)).length+4:Nat):Int).toNat=r.body:=by
  unfold ga;have:lines (gb r)++(bh++r.body)=(lines (gb r)++bh)++r.body:=by simp
  rw[this,show (((lines (gb r)).length+4:Nat):Int).toNat=(lines (gb r)++bh).length by simp[bh];omega,uQ]
 rw[e3,e4,e5,ae6 r.body r.fields λf hf'=>Du hf hf',Sv];have hn:bq (aX r.status.toNat)=some r.status.toNat:=mc.2 ⟨by omega,rfl⟩;simp only[kF,cj,hn,uL];have:((r.status.toNat:Nat):Int)=r.status:=by omega
 rw[this]
def ahf:ox []=none:=by unfold ox;rw[aD];intro h;have:kV []=-1:=rfl;omega
def ag5(s:ag):cS s=match ox s with
  |some r=>if fQ r=s then (r,true) else (cu,false)
  |none=>(cu,false):=by
 unfold cS;rw[FW (cand:=ox) (λr h=>ahe h) s];cases hs:ox s with
 |none=>rfl
 |some r=>
  simp only;have hs0:s≠[]:=by rintro rfl;rw[ahf] at hs;cases hs
  by_cases g:fQ r=s;·rw[ay ((F3 hs0).1 g),ay g]
  ·rw[aD (mt (F3 hs0).2 g),aD g]
def ahg{s:ag}{r:cg}(h:ox s=some r):bC r<=2*s.length:=by
 unfold ox at h;split at h
 ·obtain⟨w,hw,rfl⟩:=kI.1 h;have h1:=Qr s;have h2:=ae7 (iq s).tail;have h3:wL wS (iq s).tail<=wL wS (iq s):=by cases iq s<;>simp[wL];omega
  simp only[bC,uS];omega
 ·cases h
end M
namespace M
open Go
def Mw{α:Type}(w:α->Nat)(l:List α)(n:Nat):wL w (l.take n)<=wL w l:=by have h:l=l.take n++l.drop n:=(T0 n l).symm;have h1:=dr List.length h;have h2:=dr (λl=>(l.map w).sum) h;simp only[iD] at h1;simp only[jq,CC] at h2;unfold wL;omega
end M
namespace M
open Go
end M
namespace M
open Go
def eV{α:Type}(q:α->Int)(k:α):List α->List α
 |[]=>[k]
 |x::l=>if q k<q x then k::x::l else x::eV q k l
def gX{α:Type}(q:α->Int)(l:List α):List α:=l.foldl (λS k=>eV q k S) []
def rS{α:Type}(q:α->Int)(l:List α):Prop:=l.Pairwise λa b=>q a<=q b
def ET{α:Type}(q:α->Int)(k:α):∀l:List α,(eV q k l).Perm (k::l)
 |[]=>List.Perm.refl _
 |x::l=>by
  unfold eV;split;·exact List.Perm.refl _
  ·exact((ET q k l).cons x).trans (List.Perm.swap ..)
def aey{α:Type}{q:α->Int}{k x:α}{l:List α}:x∈eV q k l↔x=k\/x∈l:=by rw[(ET q k l).mem_iff];simp
def QU{α:Type}(q:α->Int)(k:α)(l:List α):(eV q k l).length=l.length+1:=by rw[(ET q k l).length_eq];rfl
def QV{α:Type}{q:α->Int}{k:α}:∀{l:List α},rS q l->rS q (eV q k l)
 |[],_=>by simp[eV,rS]
 |x::l,h=>by
  unfold rS at h⊢;rw[fA] at h;unfold eV;split
  ·rename_i g;rw[fA];refine⟨λy hy=>?_,fA.2 h⟩;rcases bZ.1 hy with rfl|hy;·omega
   ·have:=h.1 y hy;omega
  ·rename_i g;rw[fA];refine⟨λy hy=>?_,QV h.2⟩;rcases aey.1 hy with rfl|hy;·omega
   ·exact h.1 y hy
def ahv{α:Type}(q:α->Int)(l:List α)(k:α):gX q (l++[k])=eV q k (gX q l):=by simp[gX]
def L8{α:Type}(q:α->Int)(l:List α):(gX q l).Perm l:=by
 suffices H:∀(l S:List α),(l.foldl (λS k=>eV q k S) S).Perm (S++l) by simpa [gX] using H l []
 intro l;induction l with
 |nil=>intro S;simp
 |cons k l ih=>intro S;rw[qm];refine(ih _).trans ?_;refine((ET q k S).append_right l).trans ?_;simpa using (List.perm_middle (a:=k) (l₁:=S) (l₂:=l)).symm
def QS{α:Type}{q:α->Int}{k:α}:∀{l r:List α},(∀x∈l,q x<=q k)->eV q k (l++r)=l++eV q k r
 |[],r,_=>rfl
 |x::l,r,h=>by have h1:=h x (bF ..);rw[dw,eV,aD (by omega),QS λy hy=>h y (b8 _ hy)];rfl
def QT{α:Type}{q:α->Int}{k:α}{l:List α}(h:∀x∈l,q k<q x):eV q k l=k::l:=by
 cases l with
 |nil=>rfl
 |cons x l=>rw[eV,ay (h x (bF ..))]
def jB{α:Type}(q:α->Int)(k:α)(g:List α×Bool)(x:α):List α×Bool:=
 (if g.2=false/\q k<q x then g.1++[k,x] else g.1++[x],g.2||decide (q k<q x))
def ES{α:Type}(k:α)(g:List α×Bool):List α:=if g.2=true then g.1 else g.1++[k]
def aex{α:Type}(q:α->Int)(k:α)(l:List α)(out:List α):ES k (l.foldl (jB q k) (out,false))=out++eV q k l:=by
 have H:∀(l out:List α),l.foldl (jB q k) (out,true)=(out++l,true):=by
  intro l;induction l with
  |nil=>intro out;simp
  |cons x l ih=>intro out;rw[qm];simp only[jB,M8,false_and,cT,Bool.true_or];rw[ih];simp
 induction l generalizing out with
 |nil=>simp[ES,eV]
 |cons x l ih=>
  rw[qm];unfold eV;by_cases g:q k<q x;·simp only[jB,g,x9,cG,decide_true,Bool.or_true];rw[H];simp[ES]
  ·simp only[jB,g,and_false,cT,M3,Bool.or_false];rw[ih];simp
def wh{α:Type}(q:α->Int)(k:α):List α->List α->List α
 |[],done=>k::done
 |x::rev,done=>if q k<q x then wh q k rev (x::done) else (x::rev).reverse++k::done
def QW{α:Type}{q:α->Int}{k:α}:∀(rev done:List α),rS q rev.reverse->(∀x∈done,q k<q x)->wh q k rev done=eV q k (rev.reverse++done)
 |[],done,_,h=>by simp[wh,QT h]
 |x::rev,done,ho,h=>by
  have e:(x::rev).reverse=rev.reverse++[x]:=by simp
  have ho':=ho;rw[e] at ho';unfold rS at ho';rw[uF] at ho';unfold wh;split
  ·rename_i g
   rw[QW rev (x::done) ho'.1 (λy hy=>by
    rcases bZ.1 hy with rfl|hy;·exact g
    ·exact h y hy)]
   simp
  ·rename_i g
   rw[QS (λy hy=>by
    rw[e] at hy;rcases gG.1 hy with hy|hy;·have:=ho'.2.2 y hy x (by simp);omega
    ·simp at hy;subst hy;omega),QT h]
end M
