/- A machine of values for loaded Go functions, sound for the calculus of calls; part 3; no conditions. -/
import Derived.Test.YtaaeoialiegmeaaGreatDoorMb
import Derived.Sort.Grow
import Derived.Deep.Draws
import Derived.Lib.LaidTab
import Derived.MakeChecks
import Derived.Laws.BitsLemmas
import Derived.ChangeArms
import Derived.ChangeReads
import Derived.ChangeOld
import Derived.ChangeShapes
import Derived.SizedLaws
import Derived.RowKit
import Derived.Below
import Derived.Lib.ItoaNum
import Derived.Lib.TrimByte
import Derived.Lib.AtoiAllCases
import Derived.Lib.SplitLaws
import Derived.Lib.Join
import Derived.Lib.IndexMore
import Derived.HandedShaped
import Derived.Lib.Strings
import Derived.Lib.Slices
import Derived.Lib.Walk
import Derived.Stop.LaidErr
import Derived.RangeFuncNested
import Derived.RangeFuncCalls
import Derived.OrdersHeld
import Derived.OrdersIn
set_option linter.defProp false
set_option linter.unusedSectionVars false
set_option linter.unusedVariables false
set_option linter.unusedSimpArgs false
namespace M
open Go
section
variable {C C':cw}{ok:FuncId->Bool}
def afO{C:cw}{d:Option Nat}{s s':ah}{f:FuncId}{xs:List X}(h:qd d s (C f xs)=some s'):∃o,C f xs=some o/\∀C':cw,C' f xs=some o->qd d s (C' f xs)=some s':=by
 cases ho:C f xs with
 |none=>rw[ho] at h;cases h
 |some o=>rw[ho] at h;exact⟨o,rfl,λC' h'=>by rw[h'];exact h⟩
def afN{C:cw}{d:Option Nat}{as:List (AV×PM)}{back:ze}{s':ah}{f:FuncId}{xs:List X}(h:BI d as back (C f xs)=some s'):∃o,C f xs=some o/\∀C':cw,C' f xs=some o->BI d as back (C' f xs)=some s':=by
 cases ho:C f xs with
 |none=>rw[ho] at h;cases h
 |some o=>rw[ho] at h;exact⟨o,rfl,λC' h'=>by rw[h'];exact h⟩
def Pf{f:FuncId}{d:Option Nat}{as:List (AV×PM)}{fv:Option AV}{s s':ah}(h:qX C f d as fv s=some s'):
  ∃xs o,C f xs=some o/\∀C':cw,C' f xs=some o->qX C' f d as fv s=some s':=by
 unfold qX at h⊢;by_cases hb:X.bare.iX (bR as s).1=true
 ·simp only[au hb] at h⊢;cases hm:dU as with
  |none=>
   simp only[hm] at h⊢;by_cases hc:wk (bR as s).2 fv f=true;·simp only[au hc] at h⊢;obtain⟨o,h1,h2⟩:=afO h;exact⟨_,o,h1,h2⟩
   ·simp only[aC hc] at h;cases h
  |some xn=>
   obtain⟨x,n⟩:=xn;simp only[hm] at h⊢;unfold DH at h⊢;split at h
   ·split at h;·rename_i y back h1 h2;simp only[h1,au h2];obtain⟨o,h1,h2⟩:=afN h;exact⟨_,o,h1,h2⟩
    ·cases h
   ·cases h
 ·simp only[aC hb] at h;cases h
def PU{o:cq}{s s':ah}(h:cF C ok o s=some s'):(∀C':cw,cF C' ok o s=some s')\/∃f xs r,C f xs=some r/\∀C':cw,C' f xs=some r->cF C' ok o s=some s':=by
 cases o with
 |call d f as=>obtain⟨xs,o,h1,h2⟩:=Pf (C:=C) h;exact .inr ⟨f,xs,o,h1,h2⟩
 |kg d x as=>
  simp only[cF] at h⊢;split at h
  ·rename_i f caps hf;split at h;·rename_i hok;obtain⟨xs,o,h1,h2⟩:=Pf (C:=C) h;refine .inr ⟨f,xs,o,h1,λC' h'=>?_⟩;simp only[au hok];exact h2 C' h'
   ·cases h
  ·cases h
 |qW d f x as=>
  simp only[cF] at h⊢;split at h
  ·rename_i cs h1;split at h
   ·rename_i h2;simp only[au h2];refine .inr ?_;cases ho:C f (.agg (bT cs s).1::gu (bT cs s).2 .dead as (as.map λ_=>.dead)) with
    |none=>rw[ho] at h;cases h
    |some r=>rw[ho] at h;exact⟨f,_,r,ho,λC' h'=>by rw[h'];exact h⟩
   ·cases h
  ·cases h
 |_=>exact .inl λ_=>h
def PO{g:G}{s s':ah}(h:eG C ok g s=some s'):(∀C':cw,eG C' ok g s=some s')\/∃f xs r,C f xs=some r/\∀C':cw,C' f xs=some r->eG C' ok g s=some s':=by
 obtain⟨gg,o⟩:=g;cases gg with
 |none=>exact PU h
 |some tb=>
  obtain⟨t,b⟩:=tb;simp only[eG] at h⊢;split at h
  ·rename_i v hv;split at h;·rename_i h1;simp only[hv,au h1];exact PU h
   ·rename_i h1;simp only[hv,aC h1];exact .inl λ_=>h
  ·exact .inl λ_=>h
  ·cases h
def cw.le(C C':cw):Prop:=∀f xs o,C f xs=some o->C' f xs=some o
def PS(hl:C.le C'){g:G}{s s':ah}(h:eG C ok g s=some s'):eG C' ok g s=some s':=by
 rcases PO h with h|⟨f,xs,r,h1,h2⟩;·exact h _
 ·exact h2 _ (hl _ _ _ h1)
def JE(hl:C.le C'):∀{l:List G} {s s':ah},jL C ok l s=some s'->jL C' ok l s=some s'
 |[],_,_,h=>h
 |g::l,s,s',h=>by
  simp only[jL] at h⊢;cases h1:eG C ok g s with
  |none=>rw[h1] at h;cases h
  |some s1=>rw[h1] at h;rw[PS hl h1];exact JE hl h
def wv(hl:C.le C'):∀{t:DT} {s s':ah},eD C ok t s=some s'->eD C' ok t s=some s'
 |.nil _,_,_,h=>h
 |.step _ g l,s,s',h=>by
  simp only[eD] at h⊢;cases h1:eG C ok g s with
  |none=>rw[h1] at h;cases h
  |some s1=>rw[h1] at h;rw[PS hl h1];exact wv hl h
 |.alt a b,s,s',h=>by
  simp only[eD] at h⊢;unfold same at h;split at h;·rename_i x y hx hy;rw[wv hl hx,wv hl hy];exact h
  ·cases h
 |.kp _ t,s,s',h=>wv (t:=t) hl h
def HF{k k':ah->cv}{r r':cv}{o:Ex×ah}(h:fu k r=some o)(hr:∀x,r=some x->r'=some x)(hk:∀s,k s=some o->k' s=some o):fu k' r'=some o:=by
 unfold fu at h;split at h;·rw[hr _ rfl];exact hk _ h
 ·rw[hr _ rfl];exact h
 ·rw[hr _ rfl];exact h
 ·cases h
def xb{f f':ah->cv}(hf:∀s o,f s=some o->f' s=some o):∀{n m:Nat} {s:ah} {o:Ex×ah},n<=m->iter f n s=some o->iter f' m s=some o
 |0,_,_,_,_,h=>by cases h
 |n+1,0,_,_,hn,_=>by omega
 |n+1,m+1,s,o,hn,h=>HF h (hf s) λs' h'=>xb hf (by omega) h'
end
noncomputable def aI(f:ah->cv)(s:ah):cv:=by classical exact if h:∃o:Ex×ah,∃n,iter f n s=some o then some (Classical.choose h) else none
def Bj{f:ah->cv}{s:ah}{o:Ex×ah}{n:Nat}(h:iter f n s=some o):aI f s=some o:=by have hh:∃o:Ex×ah,∃n,iter f n s=some o:=⟨o,n,h⟩;unfold aI;rw[kO hh];obtain⟨m,hm⟩:=Da hh;have h1:=xb (λ_ _ h=>h) (Nat.le_max_left m n) hm;have h2:=xb (λ_ _ h=>h) (Nat.le_max_right m n) h;rw[h1] at h2;exact h2
def K6{f:ah->cv}{s:ah}{o:Ex×ah}(h:aI f s=some o):∃n,iter f n s=some o:=by
 unfold aI at h;split at h;·rename_i hh;cases h;exact Da hh
 ·cases h
def Lr{α:Type}{a b:Option α}(h1:∀x,a=some x->b=some x)(h2:∀x,b=some x->a=some x):a=b:=by
 cases a with
 |none=>cases b with
  |none=>rfl
  |some y=>exact h2 y rfl
 |some x=>exact(h1 x rfl).symm
def cT(f:ah->cv)(s:ah):aI f s=fu (aI f) (f s):=by
 refine Lr (λo h=>?_) λo h=>?_
 ·obtain⟨n,hn⟩:=K6 h;cases n with
  |zero=>cases hn
  |succ n=>exact HF hn (λ_ h=>h) λs' h'=>Bj h'
 ·unfold fu at h;split at h;·rename_i s' hs;obtain⟨n,hn⟩:=K6 h;refine Bj (n:=n+1) ?_;simp only[iter,hs,fu];exact hn
  ·rename_i hs;refine Bj (n:=1) ?_;simp only[iter,hs,fu];exact h
  ·rename_i hs;refine Bj (n:=1) ?_;simp only[iter,hs,fu];exact h
  ·cases h
noncomputable def aj(C:cw)(ok:FuncId->Bool):A->ah->cv
 |.skip,s=>some (.normal,s)
 |.ret,s=>some (.ret,s)
 |.exit id,s=>some (.exit id,s)
 |.ops l,s=>iK (jL C ok l s)
 |.draw t,s=>iK (eD C ok t s)
 |.seq a b,s=>fu (aj C ok b) (aj C ok a s)
 |.cond c a b,s=>match av s c with
  |.bool t=>if t=true then aj C ok a s else aj C ok b s
  |_=>none
 |.block id b,s=>kR id (aj C ok b s)
 |.loop b,s=>aI (aj C ok b) s
 |.pk ks b,s=>lf ks (aj C ok b s)
def FI{a b:Option ah}(h:∀s,a=some s->b=some s){o:Ex×ah}(ho:iK a=some o):iK b=some o:=by
 unfold iK at ho;split at ho;·rw[h _ rfl];exact ho
 ·cases ho
def OA{id:Nat}{a b:cv}(h:∀s,a=some s->b=some s){o:Ex×ah}(ho:kR id a=some o):kR id b=some o:=by
 cases a with
 |none=>cases ho
 |some x=>rw[h _ rfl];exact ho
def SW{ks:List Nat}{a b:cv}(h:∀s,a=some s->b=some s){o:Ex×ah}(ho:lf ks a=some o):lf ks b=some o:=by
 cases a with
 |none=>cases ho
 |some x=>rw[h _ rfl];exact ho
def YS{C C':cw}{ok:FuncId->Bool}(hl:C.le C'){N:Nat}:∀{t:A} {s:ah} {o:Ex×ah},eA C ok N t s=some o->aj C' ok t s=some o:=by
 intro t;induction t with
 |skip=>intro s o h;exact h
 |ret=>intro s o h;exact h
 |exit id=>intro s o h;exact h
 |ops l=>intro s o h;exact FI (λs' h'=>JE hl h') h
 |draw l=>intro s o h;exact FI (λs' h'=>wv hl h') h
 |seq a b iI jU=>intro s o h;exact HF h (λx hx=>iI hx) λs' h'=>jU h'
 |cond c a b iI jU=>
  intro s o h;simp only[eA] at h;simp only[aj];split at h
  ·rename_i t ht;try rw[ht]
   cases t with
   |true=>exact iI h
   |false=>exact jU h
  ·cases h
 |block id b ih=>intro s o h;exact OA (λx hx=>ih hx) h
 |loop b ih=>intro s o h;exact Bj (xb (λs o h=>ih h) (eC _) h)
 |pk ks b ih=>intro s o h;exact SW (λx hx=>ih hx) h
def YT{C C':cw}{ok:FuncId->Bool}(hl:C.le C'){N N':Nat}(hN:N<=N'):∀{t:A} {s:ah} {o:Ex×ah},eA C ok N t s=some o->eA C' ok N' t s=some o:=by
 intro t;induction t with
 |skip=>intro s o h;exact h
 |ret=>intro s o h;exact h
 |exit id=>intro s o h;exact h
 |ops l=>intro s o h;exact FI (λs' h'=>JE hl h') h
 |draw l=>intro s o h;exact FI (λs' h'=>wv hl h') h
 |seq a b iI jU=>intro s o h;exact HF h (λx hx=>iI hx) λs' h'=>jU h'
 |cond c a b iI jU=>
  intro s o h;simp only[eA] at h⊢;split at h
  ·rename_i t ht;cases t with
   |true=>exact iI h
   |false=>exact jU h
  ·cases h
 |block id b ih=>intro s o h;exact OA (λx hx=>ih hx) h
 |loop b ih=>intro s o h;exact xb (λs o h=>ih h) hN h
 |pk ks b ih=>intro s o h;exact SW (λx hx=>ih hx) h
def Ea{L:cw}{T:iD}:∀{n m:Nat},n<=m->(exec L T n).le (exec L T m)
 |0,_,_,_,_,_,h=>by cases h
 |n+1,0,hn,_,_,_,_=>by omega
 |n+1,m+1,hn,f,xs,o,h=>by
  have hnm:n<=m:=by omega
  simp only[exec] at h⊢;split at h
  ·rename_i F hF;unfold eF at h⊢;split at h
   ·rename_i hl;rw[au hl];cases hr:eA (exec L T n) (aq T) n F.body (mG xs) with
    |none=>rw[hr] at h;cases h
    |some r=>rw[hr] at h;rw[YT (Ea hnm) hnm hr];exact h
   ·cases h
  ·exact h
noncomputable def ev(L:cw)(T:iD):cw:=λf xs=>by classical exact if h:∃o:Out,∃n,exec L T n f xs=some o then some (Classical.choose h) else none
def JG{L:cw}{T:iD}{f:FuncId}{xs:List X}{o:Out}{n:Nat}(h:exec L T n f xs=some o):ev L T f xs=some o:=by have hh:∃o:Out,∃n,exec L T n f xs=some o:=⟨o,n,h⟩;unfold ev;rw[kO hh];obtain⟨m,hm⟩:=Da hh;have h1:=Ea (Nat.le_max_left m n) f xs _ hm;have h2:=Ea (Nat.le_max_right m n) f xs _ h;rw[h1] at h2;exact h2
def D8{L:cw}{T:iD}{f:FuncId}{xs:List X}{o:Out}(h:ev L T f xs=some o):∃n,exec L T n f xs=some o:=by
 unfold ev at h;split at h;·rename_i hh;cases h;exact Da hh
 ·cases h
def YZ(L:cw)(T:iD)(n:Nat):(exec L T n).le (ev L T):=λ_ _ _ h=>JG h
def alW[Bs]{P:Program}{L:cw}{T:iD}(hL:L.Sound P)(hT:T.Ok P):(ev L T).Sound P:=λf xs o h=>by obtain⟨n,hn⟩:=D8 h;exact P6 hL hT n f xs o hn
section
variable {L:cw}{T:iD}
def PR{g:G}{s s':ah}(h:eG (ev L T) (aq T) g s=some s'):∃n,∀m,n<=m->eG (exec L T m) (aq T) g s=some s':=by
 rcases PO h with h|⟨f,xs,r,h1,h2⟩;·exact⟨0,λm _=>h _⟩
 ·obtain⟨n,hn⟩:=D8 h1;exact⟨n,λm hm=>h2 _ (Ea hm f xs r hn)⟩
def PW:∀{l:List G} {s s':ah},jL (ev L T) (aq T) l s=some s'->∃n,∀m,n<=m->jL (exec L T m) (aq T) l s=some s'
 |[],s,s',h=>⟨0,λm _=>h⟩
 |g::l,s,s',h=>by
  simp only[jL] at h⊢;cases h1:eG (ev L T) (aq T) g s with
  |none=>rw[h1] at h;cases h
  |some s1=>rw[h1] at h;obtain⟨n1,jb⟩:=PR h1;obtain⟨n2,hn2⟩:=PW (l:=l) h;exact⟨max n1 n2,λm hm=>by rw[jb m (by omega)];exact hn2 m (by omega)⟩
def zQ:∀{l:DT} {s s':ah},eD (ev L T) (aq T) l s=some s'->∃n,∀m,n<=m->eD (exec L T m) (aq T) l s=some s'
 |.nil _,s,s',h=>⟨0,λm _=>h⟩
 |.step _ g l,s,s',h=>by
  simp only[eD] at h⊢;cases h1:eG (ev L T) (aq T) g s with
  |none=>rw[h1] at h;cases h
  |some s1=>rw[h1] at h;obtain⟨n1,jb⟩:=PR h1;obtain⟨n2,hn2⟩:=zQ (l:=l) h;exact⟨max n1 n2,λm hm=>by rw[jb m (by omega)];exact hn2 m (by omega)⟩
 |.alt a b,s,s',h=>by
  simp only[eD] at h⊢;unfold same at h;split at h;·rename_i x y hx hy;obtain⟨n1,jb⟩:=zQ hx;obtain⟨n2,hn2⟩:=zQ hy;exact⟨max n1 n2,λm hm=>by rw[jb m (by omega),hn2 m (by omega)];exact h⟩
  ·cases h
 |.kp _ t,s,s',h=>zQ (l:=t) h
def Sr{a:Option ah}{b:Nat->Option ah}(h:∀s,a=some s->∃n,∀m,n<=m->b m=some s){o:Ex×ah}(ho:iK a=some o):∃n,∀m,n<=m->iK (b m)=some o:=by
 cases a with
 |none=>cases ho
 |some s=>obtain⟨n,hn⟩:=h s rfl;exact⟨n,λm hm=>by rw[hn m hm];exact ho⟩
def YX:∀{t:A} {s:ah} {o:Ex×ah},aj (ev L T) (aq T) t s=some o->∃n,∀m,n<=m->eA (exec L T m) (aq T) m t s=some o:=by
 intro t;induction t with
 |skip=>intro s o h;exact⟨0,λm _=>h⟩
 |ret=>intro s o h;exact⟨0,λm _=>h⟩
 |exit id=>intro s o h;exact⟨0,λm _=>h⟩
 |ops l=>intro s o h;exact Sr (λs h=>PW h) h
 |draw l=>intro s o h;exact Sr (λs h=>zQ h) h
 |seq a b iI jU=>
  intro s o h;simp only[aj] at h;simp only[eA];cases hr:aj (ev L T) (aq T) a s with
  |none=>rw[hr] at h;cases h
  |some r=>
   rw[hr] at h;obtain⟨n1,jb⟩:=iI hr;obtain⟨e,s1⟩:=r;cases e with
   |normal=>obtain⟨n2,hn2⟩:=jU (s:=s1) h;exact⟨max n1 n2,λm hm=>by rw[jb m (by omega)];exact hn2 m (by omega)⟩
   |exit i=>exact⟨n1,λm hm=>by rw[jb m hm];exact h⟩
   |ret=>exact⟨n1,λm hm=>by rw[jb m hm];exact h⟩
 |cond c a b iI jU=>
  intro s o h;simp only[aj] at h;simp only[eA];split at h
  ·rename_i t ht;try rw[ht]
   cases t with
   |true=>exact iI h
   |false=>exact jU h
  ·cases h
 |block id b ih=>
  intro s o h;simp only[aj] at h;simp only[eA];cases hr:aj (ev L T) (aq T) b s with
  |none=>rw[hr] at h;cases h
  |some r=>rw[hr] at h;obtain⟨n1,jb⟩:=ih hr;exact⟨n1,λm hm=>by rw[jb m hm];exact h⟩
 |pk ks b ih=>
  intro s o h;simp only[aj] at h;simp only[eA];cases hr:aj (ev L T) (aq T) b s with
  |none=>rw[hr] at h;cases h
  |some r=>rw[hr] at h;obtain⟨n1,jb⟩:=ih hr;exact⟨n1,λm hm=>by rw[jb m hm];exact h⟩
 |loop b ih=>
  intro s o h;simp only[aj] at h;obtain⟨n,hn⟩:=K6 h
  have go:∀(n:Nat) (s:ah),iter (aj (ev L T) (aq T) b) n s=some o->∃k,∀m,k<=m->iter (eA (exec L T m) (aq T) m b) n s=some o:=by
   intro n;induction n with
   |zero=>intro s h;cases h
   |succ n ihn=>
    intro s h;simp only[iter] at h⊢;cases hr:aj (ev L T) (aq T) b s with
    |none=>rw[hr] at h;cases h
    |some r=>
     rw[hr] at h;obtain⟨n1,jb⟩:=ih hr;obtain⟨e,s1⟩:=r;cases e with
     |normal=>obtain⟨n2,hn2⟩:=ihn s1 h;exact⟨max n1 n2,λm hm=>by rw[jb m (by omega)];exact hn2 m (by omega)⟩
     |exit i=>exact⟨n1,λm hm=>by rw[jb m hm];exact h⟩
     |ret=>exact⟨n1,λm hm=>by rw[jb m hm];exact h⟩
  obtain⟨k,hk⟩:=go n s hn;refine⟨max k n,λm hm=>?_⟩;simp only[eA];exact xb (λ_ _ h=>h) (by omega) (hk m (by omega))
noncomputable def D7(L:cw)(T:iD)(F:Fn)(xs:List X):Option Out:=
 if xs.length=F.n then fin F (aj (ev L T) (aq T) F.body (mG xs)) else none
def YY{f:FuncId}{F:Fn}(hF:T f=some F)(xs:List X):ev L T f xs=D7 L T F xs:=by
 refine Lr (λo h=>?_) λo h=>?_
 ·obtain⟨n,hn⟩:=D8 h;cases n with
  |zero=>cases hn
  |succ n=>
   simp only[exec,hF] at hn;unfold eF at hn;unfold D7;split at hn
   ·rename_i hl;rw[au hl];cases hr:eA (exec L T n) (aq T) n F.body (mG xs) with
    |none=>rw[hr] at hn;cases hn
    |some r=>rw[hr] at hn;rw[YS (YZ L T n) hr];exact hn
   ·cases hn
 ·unfold D7 at h;split at h
  ·rename_i hl;cases hr:aj (ev L T) (aq T) F.body (mG xs) with
   |none=>rw[hr] at h;cases h
   |some r=>rw[hr] at h;obtain⟨n,hn⟩:=YX hr;refine JG (n:=n+1) ?_;simp only[exec,hF,eF,au hl,hn n (eC n)];exact h
  ·cases h
def mK{f:FuncId}(hF:T f=none)(xs:List X):ev L T f xs=L f xs:=by
 refine Lr (λo h=>?_) λo h=>?_
 ·obtain⟨n,hn⟩:=D8 h;cases n with
  |zero=>cases hn
  |succ n=>simpa only[exec,hF] using hn
 ·refine JG (n:=1) ?_;simpa only[exec,hF] using h
end
end M
namespace M
open Go
section
variable {C:cw}{ok:FuncId->Bool}{T:iD}
@[simp] def alV(s:ah):aj C ok .skip s=some (.normal,s):=rfl
@[simp] def alT(s:ah):aj C ok .ret s=some (.ret,s):=rfl
@[simp] def alP(i:Nat)(s:ah):aj C ok (.exit i) s=some (.exit i,s):=rfl
@[simp] def alR(l:List G)(s:ah):aj C ok (.ops l) s=iK (jL C ok l s):=rfl
@[simp] def alO(t:DT)(s:ah):aj C ok (.draw t) s=iK (eD C ok t s):=rfl
@[simp] def alU(a b:A)(s:ah):aj C ok (.seq a b) s=fu (aj C ok b) (aj C ok a s):=rfl
@[simp] def alM(i:Nat)(b:A)(s:ah):aj C ok (.block i b) s=kR i (aj C ok b s):=rfl
@[simp] def alQ(b:A)(s:ah):aj C ok (.loop b) s=aI (aj C ok b) s:=rfl
@[simp] def alS(ks:List Nat)(b:A)(s:ah):aj C ok (.pk ks b) s=lf ks (aj C ok b s):=rfl
noncomputable def PA(C:cw)(ok:FuncId->Bool)(a b:A)(s:ah):X->cv
 |.bool t=>if t=true then aj C ok a s else aj C ok b s
 |_=>none
@[simp] def alN(c:AV)(a b:A)(s:ah):aj C ok (.cond c a b) s=PA C ok a b s (av s c):=by simp only[aj];cases av s c<;>rfl
@[simp] def alg(a b:A)(s:ah)(t:Bool):PA C ok a b s (.bool t)=if t=true then aj C ok a s else aj C ok b s:=rfl
@[simp] def alK(s:ah):jL C ok [] s=some s:=rfl
@[simp] def alJ(g:G)(l:List G)(s:ah):jL C ok (g::l) s=(eG C ok g s).bind (jL C ok l):=rfl
@[simp] def alF(ks:List Nat)(s:ah):eD C ok (.nil ks) s=some (keep ks s):=rfl
@[simp] def alG(i:Nat)(g:G)(t:DT)(s:ah):eD C ok (.step i g t) s=(eG C ok g s).bind (eD C ok t):=rfl
@[simp] def alD(a b:DT)(s:ah):eD C ok (.alt a b) s=same (eD C ok a s) (eD C ok b s):=rfl
@[simp] def alE(ks:List Nat)(t:DT)(s:ah):eD C ok (.kp ks t) s=eD C ok t (keep ks s):=rfl
@[simp] def anq(s:ah):same (some s) (some s)=some s:=by
 have:rj s s=true:=by
  induction s with
  |nil=>rfl
  |cons a l ih=>obtain⟨k,x⟩:=a;simp[rj,X.P4,ih]
 simp[same,this]
@[simp] def akw(c:Prop)[Decidable c](a b:Option ah)(f:ah->Option ah):(if c then a else b).bind f=if c then a.bind f else b.bind f:=by split<;>rfl
def Er(C:cw)(ok:FuncId->Bool)(o:cq)(t:Nat)(b:Bool)(s:ah):X->Option ah
 |.bool v=>if v=b then cF C ok o ((t,.bool b)::s) else some (fM o.dst (.ak []) ((t,.bool (!b))::s))
 |.ak []=>some (fM o.dst (.ak []) s)
 |_=>none
@[simp] def alH(o:cq)(s:ah):eG C ok ⟨none,o⟩ s=cF C ok o s:=rfl
@[simp] def alI(t:Nat)(b:Bool)(o:cq)(s:ah):eG C ok ⟨some (t,b),o⟩ s=Er C ok o t b s (get s t):=by simp only[eG];split<;>simp_all[Er]
@[simp] def al9(o:cq)(t:Nat)(b v:Bool)(s:ah):Er C ok o t b s (.bool v)=if v=b then cF C ok o ((t,.bool b)::s) else some (fM o.dst (.ak []) ((t,.bool (!b))::s)):=rfl
@[simp] def ama(o:cq)(t:Nat)(b:Bool)(s:ah):Er C ok o t b s (.ak [])=some (fM o.dst (.ak []) s):=rfl
@[simp] def ana(s:ah):iK (some s)=some (.normal,s):=rfl
@[simp] def am9:iK none=none:=rfl
@[simp] def am8(c:Prop)[Decidable c](a b:Option ah):iK (if c then a else b)=if c then iK a else iK b:=by split<;>rfl
@[simp] def agP(k:ah->cv)(s:ah):fu k (some (.normal,s))=k s:=rfl
@[simp] def ans(k:ah->cv)(i:Nat)(s:ah):fu k (some (.exit i,s))=some (.exit i,s):=rfl
@[simp] def anv(k:ah->cv)(s:ah):fu k (some (.ret,s))=some (.ret,s):=rfl
@[simp] def anu(k:ah->cv):fu k none=none:=rfl
@[simp] def ant(k:ah->cv)(c:Prop)[Decidable c](a b:cv):fu k (if c then a else b)=if c then fu k a else fu k b:=by split<;>rfl
@[simp] def akA(i:Nat)(s:ah):kR i (some (.normal,s))=some (.normal,s):=rfl
@[simp] def akx(i j:Nat)(s:ah):kR i (some (.exit j,s))=if j=i then some (.normal,s) else some (.exit j,s):=rfl
@[simp] def akB(i:Nat)(s:ah):kR i (some (.ret,s))=some (.ret,s):=rfl
@[simp] def akz(i:Nat):kR i none=none:=rfl
@[simp] def aky(i:Nat)(c:Prop)[Decidable c](a b:cv):kR i (if c then a else b)=if c then kR i a else kR i b:=by split<;>rfl
@[simp] def ank(ks:List Nat)(s:ah):lf ks (some (.normal,s))=some (.normal,keep ks s):=rfl
@[simp] def anh(ks:List Nat)(i:Nat)(s:ah):lf ks (some (.exit i,s))=some (.exit i,s):=rfl
@[simp] def anl(ks:List Nat)(s:ah):lf ks (some (.ret,s))=some (.ret,s):=rfl
@[simp] def anj(ks:List Nat):lf ks none=none:=rfl
@[simp] def ani(ks:List Nat)(c:Prop)[Decidable c](a b:cv):lf ks (if c then a else b)=if c then lf ks a else lf ks b:=by split<;>rfl
def tV(rs:List RV)(n:Nat):cv->Option Out
 |some (.exit _,_)=>none
 |some (_,s)=>if X.clean.cz (dV rs s).1=true/\(dV rs s).1.any X.lX=false then some (uK (dV rs s).1,qc 0 n (dV rs s).2) else none
 |none=>none
def JK(rs:List RV)(n:Nat)(s:ah):Option Out:=if X.clean.cz (dV rs s).1=true/\(dV rs s).1.any X.lX=false then some (uK (dV rs s).1,qc 0 n (dV rs s).2) else none
def ay{L:cw}{T:iD}{f:FuncId}{b:A}{rs:List RV}{n:Nat}(h:T f=some ⟨b,rs,n⟩){xs:List X}(hl:xs.length=n):ev L T f xs=tV rs n (aj (ev L T) (aq T) b (mG xs)):=by rw[YY h];unfold D7;rw[au hl];rfl
@[simp] def al8(rs:List RV)(n:Nat)(s:ah):tV rs n (some (.ret,s))=JK rs n s:=rfl
@[simp] def al7(rs:List RV)(n:Nat)(s:ah):tV rs n (some (.normal,s))=JK rs n s:=rfl
@[simp] def al6(rs:List RV)(n:Nat):tV rs n none=none:=rfl
@[simp] def al5(rs:List RV)(n:Nat)(c:Prop)[Decidable c](a b:cv):tV rs n (if c then a else b)=if c then tV rs n a else tV rs n b:=by split<;>rfl
@[simp] def ano(d:Option Nat)(s:ah)(r:X)(ps:List X):qd d s (some (r,ps))=some (fM d r s):=rfl
@[simp] def ann(d:Option Nat)(s:ah):qd d s none=none:=rfl
@[simp] def anm(d:Option Nat)(s:ah)(c:Prop)[Decidable c](a b:Option Out):qd d s (if c then a else b)=if c then qd d s a else qd d s b:=by split<;>rfl
end
attribute [simp] JK cF mG CG CH dV qc post uK X.lX X.clean X.clean.cz X.clean.bz keep HL Dw qX wk
end M
namespace M
open Go
def zL(z bytes:Nat):A:=(.seq (.pk [0] (.ops [⟨none,.aN 2 .aK (.k (.row .own z []))⟩])) (.seq (.seq (.pk [0,4] (.ops [⟨none,.mv 3 (.t 0)⟩,⟨none,.r6 4 false (.t 3)⟩])) (.pk [0] (.cond (.t 4) (.seq (.pk [2,7] (.ops [⟨none,.aN 2 .aK (.k (.row .own z []))⟩])) .ret) .skip))) (.seq (.pk [2,7] (.ops [⟨none,.lit 5 .mv z []⟩,⟨none,.mv 6 (.t 0)⟩,⟨none,.app 7 .al z bytes (.t 5) (.t 6)⟩,⟨none,.aN 2 .aK (.t 7)⟩])) .ret)))
def Pu:∀{rows:List (List X)},fO rows=true->X.clean.bz rows=true
 |[],_=>rfl
 |e::l,h=>by
  simp only[fO,az,oR] at h
  have h1:X.clean.cz e=true:=by
   have h2:=h.1;clear h;induction e with
   |nil=>rfl
   |cons x e ih=>have hx:=h2 x (bq ..);have he:=ih λy hy=>h2 y (bO _ hy);cases x<;>simp_all[scalar,X.clean.cz,X.clean]
  simp only[X.clean.bz,h1,Pu h.2,Bool.and_self]
def YF[Bs]{P:Program}{f:FuncId}{z bytes:Nat}(hT:Told P f (zL z bytes) [.t 2] 1){rows:List (List X)}(h1:rows.length*bytes<=140737488355328)(h2:fO rows=true)(h4:me rows=true\/rows=[]):
  AC P f [.row .af z rows] λr ps=>r=.row .own z rows/\ps=[.dead]:=by
 refine hT.ac rfl ?_;have h3:=MI h2;have h5:=Pu h2;simp[zL,eL,ke,oX,aP,base,Ends,h1,h3,h5];intro h6;rcases h4 with h4|h4;·rw[h4] at h6;cases h6
 ·subst h4;simp
def jK(f0 z bytes:Nat):cw:=λf xs=>if f=f0 then (match xs with
 |[.row .af z' rows]=>if z'=z/\rows.length*bytes<=140737488355328/\fO rows=true/\(me rows=true\/rows=[]) then some (.row .own z rows,[.dead]) else none
 |_=>none) else none
def Pv[Bs]{P:Program}{f0 z bytes:Nat}(hT:Told P f0 (zL z bytes) [.t 2] 1):(jK f0 z bytes).Sound P:=λf xs o h=>by
 unfold jK at h;split at h
 ·rename_i hf;subst hf;split at h
  ·split at h;·rename_i hc;obtain⟨rfl,c1,c2,c3⟩:=hc;cases h;exact YF hT c1 c2 c3
   ·cases h
  ·cases h
 ·cases h
def fZ(L L':cw):cw:=λf xs=>match L f xs with
 |some o=>some o
 |none=>L' f xs
def p8[Bs]{P:Program}{L L':cw}(h:L.Sound P)(h':L'.Sound P):(fZ L L').Sound P:=λf xs o e=>by
 unfold fZ at e;split at e;·rename_i o' e';cases e;exact h f xs _ e'
 ·exact h' f xs _ e
end M
namespace M
open Go
def sv:X->Value
 |.int k n=>.int k n
 |.bool b=>.bool b
 |.str s=>.string s
 |_=>undef
def agG{c:C}(h:scalar c.er=true):c.val=sv c.er:=by cases c<;>first|rfl|(simp[C.er,scalar] at h)
def CK:X->Bool
 |.str s=>decide (s.size<=9223372036854775807)
 |x=>scalar x
def jC(f0:FuncId)(g:List X->Option X):cw:=λf xs=>if f=f0 then (match g xs with
 |some r=>if xs.all scalar=true/\CK r=true then some (r,xs.map λ_=>.dead) else none
 |none=>none) else none
end M
namespace M
open Go Go.Sort
def nH[B:Bs](w:World):Prop:=∀b,b<B.W0.heap.size->w.heap[b]?=B.W0.heap[b]?
def WM[Bs]{P:Program}{f:FuncId}{xs:List X}{r:X}(hx:∀x∈xs,scalar x=true)(hr:CK r=true)
  (h:∀w,nH w->Calls P f (xs.map sv).toArray w λe w'=>e=.returned (sv r)/\∃k os,w'=grow (w.drewN k) os):AC P f xs λr' ps=>r'=r/\ps=xs.map λ_=>.dead:=by
 intro w zl zb cs e hA lS;have hv:cs.map C.val=xs.map sv:=by rw[<-e,cH];exact b7 λc hc=>agG (hx _ (e▸j6 hc))
 rw[hv];refine(h w λb hb=>(lS b hb).1).mono λe' w' ⟨he,k,os,hw⟩=>?_;subst hw;have hsz:w.heap.size<=(grow (w.drewN k) os).heap.size:=by simp[grow,World.drewN]
 have hs:∃c:C,c.er=r/\c.val=sv r/\c.ok (grow (w.drewN k) os) (Zf zl λ_ _=>False)/\c.bare/\∀b k,¬c.fp b k:=by
  cases r with
  |int k n=>exact⟨.int k n,rfl,rfl,trivial,trivial,λ_ _ h=>h⟩
  |bool b=>exact⟨.bool b,rfl,rfl,trivial,trivial,λ_ _ h=>h⟩
  |str s=>exact⟨.str s,rfl,rfl,by simp[CK] at hr;exact hr,trivial,λ_ _ h=>h⟩
  |_=>simp[CK,scalar] at hr
 obtain⟨c,c1,c2,c3,c4,c5⟩:=hs;have Kb:Ext (λb k=>∃x∈cs,x.fp b k) w (grow (w.drewN k) os):=⟨rfl,rfl,rfl,hsz,λb hb=>.inl (by show (w.heap++os)[b]?=w.heap[b]?;exact NO hb)⟩
 refine⟨c,cs.map λx=>.dead x.val,zl,⟨by rw[he,c2],by rw[cH];rfl,Kb,⟨λx hx'=>?_,λx hx'=>?_,λx hx' b k hf=>?_,λb k hz=>kL (hA.cB b k (hz.imp id λh=>h.elim)) hsz,?_⟩,λx hx' b k hf=>?_,λ_ _ h=>h,λ_ _ h=>.inl h⟩,c1,?_⟩
 ·rcases b9.1 hx' with rfl|hx';·exact c3
  ·obtain⟨y,_,rfl⟩:=bg.1 hx';trivial
 ·rcases b9.1 hx' with rfl|hx';·exact c4
  ·obtain⟨y,_,rfl⟩:=bg.1 hx';trivial
 ·rcases b9.1 hx' with rfl|hx';·exact(c5 b k hf).elim
  ·obtain⟨y,_,rfl⟩:=bg.1 hx';exact hf.elim
 ·refine eZ.2 ⟨λx _ b k hf=>(c5 b k hf).elim,?_⟩;refine qG.2 λi j hi hj _ b k hf=>?_;obtain⟨y,_,hy⟩:=bg.1 (cy hi);rw[<-hy] at hf;exact hf.elim
 ·rcases b9.1 hx' with rfl|hx';·exact(c5 b k hf).elim
  ·obtain⟨y,_,rfl⟩:=bg.1 hx';exact hf.elim
 ·rw[<-e];simp[cH,Im,C.er]
def abU[Bs]{P:Program}{f0:FuncId}{g:List X->Option X}(h:∀xs r,g xs=some r->∀w,nH w->Calls P f0 (xs.map sv).toArray w λe w'=>e=.returned (sv r)/\∃k os,w'=grow (w.drewN k) os):(jC f0 g).Sound P:=λf xs o e=>by
 unfold jC at e;split at e
 ·rename_i hf;subst hf;split at e
  ·rename_i r hr;split at e;·rename_i hc;cases e;exact WM (oR.1 hc.1) hc.2 (h xs r hr)
   ·cases e
  ·cases e
 ·cases e
def TabIs.same[B:Bs]{P:Program}{w:World}{n:String}{k:IntKind}{zs:List Int}(h:Lib.TabIs P B.W0 n k zs)(hw:nH w):Lib.TabIs P w n k zs:=by
 unfold Lib.TabIs World.var? at h⊢;cases hg:P.globalNamed n with
 |none=>rw[hg] at h;cases h
 |some g=>
  rw[hg] at h;simp only[gj] at h⊢
  have hlt:g<B.W0.heap.size:=by
   rcases gI g B.W0.heap.size with h'|h';·exact h'
   ·rw[kP h'] at h;cases h
  rw[hw g hlt];exact h
def agJ{P:Program}{W:World}{name:String}{k:IntKind}{zs:List Int}{g:Nat}{t e:TypeId}{n:Nat}
  (hg:P.globalNamed name=some g)(hty:(P.globals[g]?).map (·.type)=some t)(ht:P.underlying t=some (.array n e))(he:P.underlying e=some (.int k))(hce:P.cellsOf e=1)(hct:P.cellsOf t=n):
  ∀{l:List (String×DataW Unit)} {ps:List MemPlace},DataW.LaidVars P W l ps->(name,Lib.tabData k zs)∈l->Lib.TabIs P W name k zs
 |[],_,_,h=>by cases h
 |(nm,d)::l,ps,h,hm=>by
  obtain⟨g',t',cs,fuel,p,q,hg',ht',hvar,hd,hr,_⟩:=h;rcases b9.1 hm with hm|hm;·obtain⟨rfl,rfl⟩:=C9 hm;obtain rfl:=iA (hg.symm.trans hg');obtain rfl:=iA (hty.symm.trans ht');unfold Lib.TabIs;rw[hvar,<-Lib.cells_of_tab ht he hce hct hd]
  ·exact agJ hg hty ht he hce hct hr hm
end M
namespace M
open Go
def lv:Ex×ah->cv
 |(.normal,_)=>none
 |(.ret,s)=>some (.ret,s)
 |(.exit i,s)=>some (.exit i,s)
def oq{β γ:Type}(go:β->γ->γ ⊕ (Ex×ah)):List β->γ->γ ⊕ (Ex×ah)
 |[],g=>.inl g
 |b::l,g=>match go b g with
  |.inl g'=>oq go l g'
  |.inr o=>.inr o
def K8{xt:Nat}{β γ:Type}{f:ah->cv}(l:List β)(st:Nat->γ->ah)(go:β->γ->γ ⊕ (Ex×ah))(E:γ->ah)(Inv:Nat->γ->Prop)(g:γ)(h0:Inv 0 g)
  (h:∀i b g,l[i]?=some b->i<l.length->Inv i g->f (st i g)=(match go b g with|.inl g'=>some (.normal,st (i+1) g')|.inr o=>lv o))
  (hI:∀i b g g',l[i]?=some b->Inv i g->go b g=.inl g'->Inv (i+1) g')
  (hend:∀g,Inv l.length g->f (st l.length g)=some (.exit xt,E g)):
  aI f (st 0 g)=match oq go l g with|.inl g'=>some (.exit xt,E g')|.inr o=>lv o:=by
 suffices H:∀(r:List β) (i:Nat) (g:γ),Inv i g->l.drop i=r->i<=l.length->aI f (st i g)=match oq go r g with|.inl g'=>some (.exit xt,E g')|.inr o=>lv o from H l 0 g h0 rfl (oQ _)
 intro r;induction r with
 |nil=>
  intro i g hi hr hl;have:i=l.length:=by have:=dr List.length hr;simp at this;omega
  subst this;rw[cT,hend g hi];rfl
 |cons b r ih=>
  intro i g hi hr hl
  have hlt:i<l.length:=by
   rcases gI i l.length with h|h;·exact h
   ·rw[NP h] at hr;cases hr
  have hb:l[i]?=some b:=by have:=qK hlt;rw[hr] at this;rw[cm hlt];cases this;rfl
  have hr':l.drop (i+1)=r:=by have:=qK hlt;rw[hr] at this;cases this;rfl
  rw[cT,h i b g hb hlt hi];unfold oq;cases hg:go b g with
  |inl g'=>exact ih (i+1) g' (hI i b g g' hb hi hg) hr' hlt
  |inr o=>obtain⟨e,s⟩:=o;cases e<;>simp[fu,lv]
def aX{α:Type}(p:α->Bool)(l:List α):Bool:=l.all p
def ff{α:Type}{p:α->Bool}{l:List α}:aX p l=true↔∀x∈l,p x=true:=oR
def gB{xt:Nat}{β:Type}{f:ah->cv}(l:List β)(st:Nat->ah)(p:β->Bool)(R E:ah)
  (h:∀i b,l[i]?=some b->i<l.length->f (st i)=if p b=true then some (.normal,st (i+1)) else some (.ret,R))
  (hend:f (st l.length)=some (.exit xt,E)):
  aI f (st 0)=if aX p l=true then some (.exit xt,E) else some (.ret,R):=by
 show _=if l.all p=true then _ else _
 have H:=K8 (f:=f) l (λi (_:Unit)=>st i) (λb _=>if p b=true then .inl () else .inr (.ret,R)) (λ_=>E) (λ_ _=>True) () trivial
  (λi b g hb hl _=>by rw[h i b hb hl];by_cases hp:p b=true<;>simp[hp,lv]) (λ_ _ _ _ _ _ _=>trivial) λ_ _=>hend
 refine H.trans ?_
 have:∀r:List β,oq (λb (_:Unit)=>if p b=true then .inl () else .inr (Ex.ret,R)) r ()=if r.all p=true then .inl () else .inr (.ret,R):=by
  intro r;induction r with
  |nil=>rfl
  |cons b r ih=>
   simp only[oq];by_cases hp:p b=true;·simp[hp,ih]
   ·simp[hp]
 rw[this];by_cases hp:l.all p=true<;>simp[hp,lv]
def K7{xt:Nat}{β γ:Type}{f:ah->cv}(l:List β)(st:Nat->γ->ah)(go:γ->β->γ)(E:γ->ah)(Inv:Nat->γ->Prop)(g:γ)(h0:Inv 0 g)
  (h:∀i b g,l[i]?=some b->i<l.length->Inv i g->f (st i g)=some (.normal,st (i+1) (go g b)))
  (hI:∀i b g,l[i]?=some b->Inv i g->Inv (i+1) (go g b))
  (hend:∀g,Inv l.length g->f (st l.length g)=some (.exit xt,E g)):
  aI f (st 0 g)=some (.exit xt,E (l.foldl go g)):=by
 refine(K8 (f:=f) l st (λb g=>.inl (go g b)) E Inv g h0 h (λi b g g' hb hi e=>by cases e;exact hI i b g hb hi) hend).trans ?_
 have:∀(r:List β) (g:γ),oq (λb g=>.inl (go g b)) r g=(.inl (r.foldl go g):γ ⊕ (Ex×ah)):=by
  intro r;induction r with
  |nil=>intro g;rfl
  |cons b r ih=>intro g;simp only[oq,nE];exact ih _
 rw[this]
def R7{xt:Nat}{β:Type}{f:ah->cv}(l:List β)(st:Nat->ah)(E:ah)
  (h:∀i b,l[i]?=some b->i<l.length->f (st i)=some (.normal,st (i+1)))
  (hend:f (st l.length)=some (.exit xt,E)):aI f (st 0)=some (.exit xt,E):=
 K7 l (λi (_:Unit)=>st i) (λ_ _=>()) (λ_=>E) (λ_ _=>True) () trivial (λi b _ hb hl _=>h i b hb hl) (λ_ _ _ _ _=>trivial) λ_ _=>hend
def bX{n:Int}(h1:-9223372036854775808<=n)(h2:n<=9223372036854775807):IntKind.i64.wrap n=n:=by simp only[IntKind.wrap,IntKind.signed,IntKind.bits,NL,aY];split<;>rename_i h<;>simp at h<;>omega
def aU(n:Nat)(h:n<9223372036854775807):IntKind.i64.wrap (↑n+1)=↑n+1:=bX (by omega) (by omega)
attribute [simp] base Hy gX look cQ cK cL DH FH BI kF iy
abbrev ag:=List UInt8
@[simp] def anr(s:ag):ByteArray.size ⟨s.toArray⟩=s.length:=by simp[ByteArray.size]
@[simp] def str_inj(s t:ag):((⟨s.toArray⟩:ByteArray)=⟨t.toArray⟩)↔s=t:=by
 constructor
 ·intro h;injection h with h
  simpa using dr Array.toList h
 ·rintro rfl;rfl
def fq(s t:ag):(⟨s.toArray⟩:ByteArray)++⟨t.toArray⟩=⟨(s++t).toArray⟩:=by apply ByteArray.ext;rw[ByteArray.data_append];simp
@[simp] def eS(s:ag):List X:=[.str ⟨s.toArray⟩]
structure Wr where
 at_:Int
 text:ag
 deriving DecidableEq
structure aQ where
 cells:List ag
 pending:List Wr
 deriving DecidableEq
@[simp] def eW(w:Wr):List X:=[.int .i64 w.at_,.str ⟨w.text.toArray⟩]
@[simp] def bU(m:Md)(d:aQ):List X:=[.row m 1 (d.cells.map eS),.row m 2 (d.pending.map eW)]
@[simp] def am2(m:Md)(l:List ag):X.bV m (l.map eS)=l.map eS:=by induction l<;>simp_all[X.bV,X.dS,X.md]
@[simp] def am6(m:Md)(l:List Wr):X.bV m (l.map eW)=l.map eW:=by induction l<;>simp_all[X.bV,X.dS,X.md]
@[simp] def YD(l:List ag):X.clean.bz (l.map eS)=true:=by induction l<;>simp_all[X.clean.bz,X.clean.cz,X.clean]
@[simp] def YE(l:List Wr):X.clean.bz (l.map eW)=true:=by induction l<;>simp_all[X.clean.bz,X.clean.cz,X.clean]
def aeh{α β:Type}(l:List α)(e:α->β)(z:β)(g:β->β){i:Nat}(hi:i<l.length)(hg:g z=e l[i]):
  ((l.take i).map e++List.replicate (l.length - i) z).modify i g=(l.take (i+1)).map e++List.replicate (l.length - (i+1)) z:=by
 apply hO;intro j;rw[vM];rcases Nat.lt_trichotomy j i with h|h|h;·rw[nF (by simp;omega),nF (by simp;omega)];simp only[cR,List.getElem?_take,au h,au (Nat.lt_succ_of_lt h),aC (Nat.ne_of_gt h)];cases l[j]?<;>rfl
 ·subst h;rw[iB (by simp;omega),nF (by simp;omega)];have:j - ((l.take j).map e).length=0:=by simp;omega
  rw[this,Vh (by omega)];simp only[cR,List.getElem?_take,au (Nat.lt_succ_self j),cm hi,cY,cg,<-hg];rfl
 ·rw[iB (by simp;omega),iB (by simp;omega)];have h1:j - ((l.take i).map e).length=j - i:=by simp;omega
  have h2:j - ((l.take (i+1)).map e).length=j - (i+1):=by simp;omega
  rw[h1,h2,NT,NT];by_cases h3:j<l.length;·rw[au (by omega),au (by omega)];simp only[Nat.ne_of_lt h,dQ];rfl
  ·rw[aC (by omega),aC (by omega)];rfl
def kS(rows:List (List X))(i:Nat)(z:List X):List (List X):=rows.take i++List.replicate (rows.length - i) z
@[simp] def al2(rows:List (List X))(i:Nat)(z:List X):(kS rows i z).length=rows.length:=by simp[kS];omega
@[simp] def Y4(rows:List (List X))(i:Nat)(z:List X)(h:i<rows.length):(kS rows i z)[i]?=some z:=by unfold kS;rw[iB (by simp;omega),Vh (by simp;omega)]
@[simp] def al1(rows:List (List X))(i:Nat)(z:List X)(h:i<(kS rows i z).length):(kS rows i z)[i]=z:=by
 have h':i<rows.length:=by simpa using h
 have:=Y4 rows i z h';rw[cm h] at this;exact iA this
@[simp] def al4(rows:List (List X))(z:List X):kS rows 0 z=List.replicate rows.length z:=by simp[kS]
@[simp] def al0(rows:List (List X))(i:Nat)(z:List X)(h:i=rows.length):kS rows i z=rows:=by subst h;simp[kS]
@[simp] def al3(rows:List (List X))(i:Nat)(z:List X)(g:List X->List X)(h:i<rows.length)(hg:g z=rows[i]):(kS rows i z).modify i g=kS rows (i+1) z:=by have:=aeh rows id z g h (by simpa using hg);simpa [kS] using this
def Vm{α β:Type}:∀{a:List α} {b:List β},a.length=b.length->∃ps:List (α×β),a=ps.map Prod.fst/\b=ps.map Prod.snd
 |[],[],_=>⟨[],rfl,rfl⟩
 |x::a,y::b,h=>by obtain⟨ps,h1,h2⟩:=Vm (a:=a) (b:=b) (by simpa using h);exact⟨(x,y)::ps,by simp[<-h1],by simp[<-h2]⟩
 |[],_::_,h=>by cases h
 |_::_,[],h=>by cases h
def wz{α:Type}[DecidableEq α](x:α×α):Bool:=decide (x.1=x.2)
def Oj{α:Type}[DecidableEq α]:∀ps:List (α×α),aX wz ps=decide (ps.map Prod.fst=ps.map Prod.snd)
 |[]=>rfl
 |x::ps=>by have:=Oj ps;unfold aX at this⊢;simp only[List.all_cons,this,wz,bn,vK];exact(Bool.decide_and ..).symm
def adT{xt:Nat}{β:Type}{f:ah->cv}(l:List β)(st:Int->ah)(p:β->Bool)(R:β->ah)(E:ah)
  (h:∀(i:Nat) b,l[i]?=some b->i<l.length->f (st i)=if p b=true then some (.ret,R b) else some (.normal,st (i - 1)))
  (hend:f (st (-1))=some (.exit xt,E)):
  aI f (st (l.length - 1))=(l.reverse.find? p).elim (some (.exit xt,E)) (λb=>some (.ret,R b)):=by
 suffices H:∀k,k<=l.length->aI f (st ((k:Int) - 1))=((l.take k).reverse.find? p).elim (some (.exit xt,E)) (λb=>some (.ret,R b)) by have:=H l.length (eC _);rwa [vF] at this
 intro k;induction k with
 |zero=>intro _;rw[cT];simp[hend]
 |succ k ih=>
  intro hk;have hb:l[k]?=some l[k]:=cm hk;have e:((k+1:Nat):Int) - 1=(k:Int):=by omega
  rw[e,cT,h k _ hb hk,List.take_add_one,hb];simp only[Option.toList_some,Nx,List.reverse_cons,List.reverse_nil,j7,U5,List.find?_cons];by_cases hp:p l[k]=true;·simp[hp]
  ·simp only[hp,fA,dQ,agP];exact ih (by omega)
def cC(d:aQ)(a:Int):ag:=d.pending.foldl (λout w=>if w.at_=a then w.text else out) (d.cells.getD a.toNat [])
def JR(a:Int):∀(l:List Wr) (x:ag),l.foldl (λout w=>if w.at_=a then w.text else out) x=(l.reverse.find? (λw=>decide (w.at_=a))).elim x Wr.text
 |[],x=>rfl
 |w::l,x=>by
  rw[nE,JR a l,List.reverse_cons,List.find?_append];cases l.reverse.find? (λw=>decide (w.at_=a)) with
  |some v=>rfl
  |none=>by_cases h:w.at_=a<;>simp[h]
def nN(new old:List (List X))(i:Nat):List (List X):=new.take i++old.drop i
@[simp] def P8(new old:List (List X))(i:Nat)(h:new.length=old.length):(nN new old i).length=old.length:=by simp[nN];omega
@[simp] def Y3(new old:List (List X))(i:Nat)(h:new.length=old.length)(hi:i<old.length):(nN new old i)[i]?=old[i]?:=by unfold nN;rw[iB (by simp;omega),oS];congr 1;simp;omega
@[simp] def alY(new old:List (List X))(i:Nat)(hl:i<(nN new old i).length)(h:new.length=old.length):(nN new old i)[i]=old[i]'(by rw[P8 _ _ _ h] at hl;exact hl):=by
 have hi:i<old.length:=by rw[P8 _ _ _ h] at hl;exact hl
 have:=Y3 new old i h hi;rw[cm hl,cm hi] at this;exact iA this
@[simp] def alZ(new old:List (List X)):nN new old 0=old:=by simp[nN]
@[simp] def alX(new old:List (List X))(i:Nat)(h:new.length=old.length)(hi:i=old.length):nN new old i=new:=by subst hi;rw[<-h];simp[nN];omega
def pX(n:Nat)(out:ag):ag:=if h:n=0 then out else pX (n / 10) (UInt8.ofNat (48+n%10)::out)
termination_by n
decreasing_by omega
def Bq(k:Int):ag:=if k<=0 then [109,48] else 109::pX k.toNat []
def Br(n:Nat)(k:Int):List ag:=(List.range n).map λ(i:Nat)=>Bq (k+i)
def Bt(n:Nat)(k:Int):List Wr:=(List.range n).map λ(i:Nat)=>⟨k+2*i,Bq (k+2*i+1)⟩
@[simp] def amM(n:Nat)(k:Int):(Br n k).length=n:=by simp[Br]
@[simp] def amO(n:Nat)(k:Int):(Bt n k).length=n:=by simp[Bt]
@[simp] def amL(n:Nat)(k:Int)(i:Nat)(h:i<(Br n k).length):(Br n k)[i]=Bq (k+i):=by simp[Br]
@[simp] def amN(n:Nat)(k:Int)(i:Nat)(h:i<(Bt n k).length):(Bt n k)[i]=⟨k+2*i,Bq (k+2*i+1)⟩:=by simp[Bt]
def foldI{β γ:Type}(go:Nat->γ->β->γ):Nat->List β->γ->γ
 |_,[],g=>g
 |i,b::l,g=>foldI go (i+1) l (go i g b)
def gT{xt:Nat}{β γ:Type}{f:ah->cv}(l:List β)(st:Nat->γ->ah)(go:Nat->γ->β->γ)(E:γ->ah)(Inv:Nat->γ->Prop)(g:γ)(h0:Inv 0 g)
  (h:∀i b g,l[i]?=some b->i<l.length->Inv i g->f (st i g)=some (.normal,st (i+1) (go i g b)))
  (hI:∀i b g,l[i]?=some b->Inv i g->Inv (i+1) (go i g b))
  (hend:∀g,Inv l.length g->f (st l.length g)=some (.exit xt,E g)):
  aI f (st 0 g)=some (.exit xt,E (foldI go 0 l g)):=by
 suffices H:∀(r:List β) (i:Nat) (g:γ),Inv i g->l.drop i=r->i<=l.length->aI f (st i g)=some (.exit xt,E (foldI go i r g)) from H l 0 g h0 rfl (oQ _)
 intro r;induction r with
 |nil=>
  intro i g hi hr hl;have:i=l.length:=by have:=dr List.length hr;simp at this;omega
  subst this;rw[cT,hend g hi];rfl
 |cons b r ih=>
  intro i g hi hr hl
  have hlt:i<l.length:=by
   rcases gI i l.length with h|h;·exact h
   ·rw[NP h] at hr;cases hr
  have hd:=qK hlt;rw[hr] at hd;have hb:l[i]?=some b:=by rw[cm hlt];cases hd;rfl
  have hr':l.drop (i+1)=r:=by cases hd;rfl
  rw[cT,h i b g hb hlt hi];exact ih (i+1) _ (hI i b g hb hi) hr' hlt
def iu(k:Nat->Bool)(i:Nat)(cs:List ag)(w:Wr):List ag:=if k i=true then cs.set w.at_.toNat w.text else cs
def mV(k:Nat->Bool)(cs:List ag)(ws:List Wr):List ag:=foldI (iu k) 0 ws cs
def Fy(k:Nat->Bool)(i:Nat)(cs:List ag)(w:Wr):(iu k i cs w).length=cs.length:=by unfold iu;split<;>simp
def Qr(k:Nat->Bool):∀(ws:List Wr) (i:Nat) (cs:List ag),(foldI (iu k) i ws cs).length=cs.length
 |[],_,_=>rfl
 |w::ws,i,cs=>by rw[foldI,Qr k ws,Fy]
def RR(k:Nat->Bool)(cs:List ag)(ws:List Wr):(mV k cs ws).length=cs.length:=Qr k ws 0 cs
@[simp] def am7(cs:List ag)(n:Nat)(t:ag):(cs.map eS).modify n (λx=>x.set 0 (X.str ⟨t.toArray⟩))=(cs.set n t).map eS:=by
 apply hO;intro j;rw[vM,cR,cR,vN];by_cases h:n=j
 ·subst h;simp only[cY];by_cases h2:n<cs.length;·simp[h2]
  ·simp[h2,kQ (Nat.le_of_not_lt h2)]
 ·simp only[h,dQ];cases cs[j]?<;>rfl
def gR(keep:List Bool)(all:Bool)(i:Nat):Bool:=all||keep.getD i false
@[simp] def eB(b:Bool):List X:=[.bool b]
@[simp] def amQ(m:Md)(l:List Bool):X.bV m (l.map eB)=l.map eB:=by induction l<;>simp_all[X.bV,X.dS,X.md]
@[simp] def akR(l:List Bool):X.clean.bz (l.map eB)=true:=by induction l<;>simp_all[X.clean.bz,X.clean.cz,X.clean]
def Ho(l:List ag):fO (l.map eS)=true:=by induction l<;>simp_all[fO,scalar]
def Tu(l:List Wr):fO (l.map eW)=true:=by induction l<;>simp_all[fO,scalar]
attribute [simp] Ho Tu
@[simp] def akQ(a b:List (List X)):X.clean.bz (a++b)=(X.clean.bz a && X.clean.bz b):=by
 induction a with
 |nil=>simp[X.clean.bz]
 |cons e a ih=>simp[X.clean.bz,ih,NB]
@[simp] def amP(m:Md)(a b:List (List X)):X.bV m (a++b)=X.bV m a++X.bV m b:=by
 induction a with
 |nil=>simp[X.bV]
 |cons e a ih=>simp[X.bV,ih]
structure bA where
 code:List UInt8
 i:Nat
 h:Int
 hi:i<=code.length
 hl:code.length<=9223372036854775807
@[simp] def eU(b:UInt8):List X:=[.int .u8 (b.toNat:Int)]
@[simp] def am5(m:Md)(l:List UInt8):X.bV m (l.map eU)=l.map eU:=by induction l<;>simp_all[X.bV,X.dS,X.md]
@[simp] def ak5(l:List UInt8):X.clean.bz (l.map eU)=true:=by induction l<;>simp_all[X.clean.bz,X.clean.cz,X.clean]
def aV(c:bA):List X:=[.row .sl 1 (c.code.map eU),.int .i64 c.i,.int .i64 c.h]
@[simp] def alA(c:bA):(aV c).length=3:=rfl
@[simp] def alC(c:bA):(aV c).take 3=aV c:=rfl
@[simp] def alx(c:bA):(aV c).drop 3=[]:=rfl
@[simp] def alB(ks:List Nat)(c:bA):X.nj ks (aV c)=aV c:=rfl
@[simp] def aly(r:Nat)(p:Path)(c:bA):X.gA r p (aV c)=aV c:=rfl
@[simp] def alz(r:Nat)(p:Path)(c:bA):X.pT r p (aV c)=aV c:=rfl
@[simp] def alw(c:bA):X.clean.cz (aV c)=true:=by simp[aV,X.clean.cz,X.clean]
@[simp] def alv(c:bA):X.bare.iX (aV c)=true:=by simp[aV,X.bare.iX,X.bare]
def Om(n:Int):IntKind.i64.wrap (((n%2^IntKind.i64.bits).toNat &&& 255%2^IntKind.i64.bits:Nat):Int)=n%256:=by
 have e:255%2^IntKind.i64.bits=2^8 - 1:=by decide
 have e2:(2:Int)^IntKind.i64.bits=18446744073709551616:=by decide
 rw[e,Nat.and_two_pow_sub_one_eq_mod,IntKind.wrap_i64,e2];omega
def adU{xt:Nat}{γ:Type}{f:ah->cv}(n:Nat)(st:Nat->γ->ah)(Inv:Nat->γ->Prop)(E:γ->ah)(g:γ)(h0:Inv 0 g)
  (h:∀i g,i<n->Inv i g->∃g',f (st i g)=some (.normal,st (i+1) g')/\Inv (i+1) g')
  (hend:∀g,Inv n g->f (st n g)=some (.exit xt,E g)):∃g',Inv n g'/\aI f (st 0 g)=some (.exit xt,E g'):=by
 suffices H:∀k i g,i+k=n->Inv i g->∃g',Inv n g'/\aI f (st i g)=some (.exit xt,E g') from H n 0 g (by omega) h0
 intro k;induction k with
 |zero=>
  intro i g hi hI;obtain rfl:i=n:=by omega
  exact⟨g,hI,by rw[cT,hend g hI];rfl⟩
 |succ k ih=>intro i g hi hI;obtain⟨g1,e1,hI1⟩:=h i g (by omega) hI;obtain⟨g2,J1,e2⟩:=ih (i+1) g1 (by omega) hI1;exact⟨g2,J1,by rw[cT,e1];exact e2⟩
end M
namespace M
open Go Go.RowKit
inductive Ty where
 |int (k:IntKind)
 |bool
 |str
 |row (ts:List Ty)
inductive iU:Ty->X->Prop
 |int {k n}:(Lit.int k n).wf=true->iU (.int k) (.int k n)
 |bool {b}:iU .bool (.bool b)
 |str {s:ByteArray}:s.size<=maxLen->iU .str (.str s)
 |row {ts xs}:xs.length<=maxLen->(∀r:List X,r∈xs->r.length=ts.length)->(∀(r:List X),r∈xs->∀(j:Nat) ty x,ts[j]?=some ty->r[j]?=some x->iU ty x)->iU (.row ts) (.row .sl ts.length xs)
structure Dk (w:World) (ty:Ty) (c:C):Prop where
 cell:c.cell
 cO:c.cO
 fits:c.fits .sl
 ok:c.ok w (Zf (λb _=>b<w.heap.size) λ_ _=>False)
 fp:∀b k,¬c.fp b k
 zM:iU ty c.er
def kU(w:World):List Ty->List Value->List C->Prop
 |[],[],[]=>True
 |ty::ts,v::vs,c::cs=>c.val=v/\Dk w ty c/\kU w ts vs cs
 |_,_,_=>False
def QI{w:World}:∀{ts:List Ty} {vs:List Value} {cs:List C} {ts':List Ty} {vs':List Value} {cs':List C},kU w ts vs cs->kU w ts' vs' cs'->kU w (ts++ts') (vs++vs') (cs++cs')
 |[],[],[],_,_,_,_,h=>h
 |_::_,_::_,_::_,_,_,_,⟨h1,h2,h3⟩,h=>⟨h1,h2,QI h3 h⟩
def QJ{w:World}:∀{ts:List Ty} {vs:List Value} {cs:List C},kU w ts vs cs->vs.length=ts.length/\cs.length=ts.length/\vs=cs.map C.val
 |[],[],[],_=>⟨rfl,rfl,rfl⟩
 |_::_,_::_,_::_,⟨h1,h2,h3⟩=>by obtain⟨e1,e2,e3⟩:=QJ h3;exact⟨by simp[e1],by simp[e2],by simp[h1,<-e3]⟩
def JX{w:World}:∀{ts:List Ty} {vs:List Value} {cs:List C},kU w ts vs cs->∀{j:Nat},j<ts.length->∃ty c,ts[j]?=some ty/\cs[j]?=some c/\vs[j]?=some c.val/\Dk w ty c
 |ty::ts,v::vs,c::cs,⟨h1,h2,h3⟩,0,_=>⟨ty,c,rfl,rfl,by simp[h1],h2⟩
 |ty::ts,v::vs,c::cs,⟨h1,h2,h3⟩,j+1,h=>by obtain⟨ty,c,a1,a2,a3,a4⟩:=JX h3 (j:=j) (by simpa using h);exact⟨ty,c,by simpa using a1,by simpa using a2,by simpa using a3,a4⟩
def yM(P:Program)(r:TypeId->Option (List Ty)):Nat->List Field->Option (List Ty)
 |_,[]=>some []
 |o,f::fs=>if f.offset=o then (r f.type).bind λts=>if ts.length=P.cellsOf f.type then (yM P r (o+ts.length) fs).map (ts++·) else none else none
def jl(P:Program):Nat->Bool->TypeId->Option (List Ty)
 |0,_,_=>none
 |n+1,deep,t=>match P.underlying t with
  |some .bool=>some [.bool]
  |some (.int k)=>some [.int k]
  |some .string=>some [.str]
  |some (.slice e)=>if deep then (jl P n true e).bind λts=>if ts.length=P.cellsOf e/\0<P.cellsOf e then some [.row ts] else none else none
  |some (.struct fs)=>(yM P (jl P n deep) 0 fs.toList).bind λts=>if ts.length=P.cellsOf t then some ts else none
  |_=>none
section
variable {H:Type}{enc:TypeId×Value->H}{P:Program}{w:World}{sp:Nat->Bool}{held:Bool}
def Uc{r:TypeId->Option (List Ty)}{cs:List Value}
  (hr:∀t ts fuel cs' x,r t=some ts->DataW.trod enc P w 0 sp held fuel t cs'=some x->(∀v∈cs',v∈cs)->∃Cs,kU w ts cs' Cs):
  ∀(fs:List Field) (o:Nat) (ts:List Ty),yM P r o fs=some ts->(∀f∈fs,∃fuel x,DataW.trod enc P w 0 sp held fuel f.type ((cs.drop f.offset).take (P.cellsOf f.type))=some x)->
   ∃Cs,kU w ts ((cs.drop o).take ts.length) Cs
 |[],o,ts,h,_=>by cases h;exact⟨[],by simp[kU]⟩
 |f::fs,o,ts,h,hx=>by
  simp only[yM] at h;split at h
  ·rename_i ho;simp only[kM] at h;obtain⟨t1,h1,h⟩:=h;split at h;·rename_i hl;simp only[kN] at h;obtain⟨t2,h2,rfl⟩:=h;obtain⟨fuel,x,hf⟩:=hx f (bq ..);obtain⟨C1,g1⟩:=hr _ _ _ _ _ h1 hf λv hv=>UZ (Ns hv);obtain⟨C2,g2⟩:=Uc hr fs _ _ h2 λf hf=>hx f (bO _ hf);refine⟨C1++C2,?_⟩;rw[e9,List.take_add,Dd];rw[ho,<-hl] at g1;exact QI g1 g2
   ·cases h
  ·cases h
def agz{w:World}{g o n m:Nat}{spot:Option Nat}{vs:List Value}(hn:0<n)(h:w.cells? 0 ((⟨g,o,spot⟩:Addr).add (0*m)) n=some vs):spot=none:=by
 obtain⟨_,hl,e3⟩:=World.cells?_some h;have e4:=e3 0 hn;have:∃v,vs[0]?=some v:=⟨vs[0],cm (by omega)⟩;obtain⟨v,hv⟩:=this;rw[hv] at e4;have ha:((⟨g,o,spot⟩:Addr).add (0*m)).add 0=⟨g,o,spot⟩:=by simp[Addr.add]
 rw[ha] at e4;unfold World.cell? at e4;cases spot with
 |none=>rfl
 |some k=>
  split at e4;·simp at e4
  ·cases e4
def trod_good:∀(n:Nat) (deep:Bool) (t:TypeId) (ts:List Ty),jl P n deep t=some ts->∀(fuel:Nat) (cs:List Value) (x:DataW H×List MemPlace),DataW.trod enc P w 0 sp held fuel t cs=some x->∃Cs,kU w ts cs Cs
 |0,_,_,_,h,_,_,_,_=>by cases h
 |n+1,deep,t,ts,h,fuel,cs,x,hx=>by
  simp only[jl] at h;split at h;·rename_i hu;cases h;obtain⟨b,rfl,rfl⟩:=DataW.trod_bool hu hx;exact⟨[.bool b],rfl,⟨trivial,trivial,trivial,trivial,λ_ _ h=>h,.bool⟩,trivial⟩
  ·rename_i k hu;cases h;obtain⟨m,rfl,rfl,hw⟩:=DataW.trod_int hu hx;exact⟨[.int k m],rfl,⟨trivial,trivial,trivial,trivial,λ_ _ h=>h,.int hw⟩,trivial⟩
  ·rename_i hu;cases h;obtain⟨s,rfl,rfl,hw⟩:=DataW.trod_string hu hx;exact⟨[.str s],rfl,⟨trivial,trivial,trivial,hw,λ_ _ h=>h,.str hw⟩,trivial⟩
  ·rename_i e hu;split at h
   ·rename_i hd;simp only[kM] at h;obtain⟨te,h1,h⟩:=h;split at h
    ·rename_i hl;obtain⟨hl,hpos⟩:=hl;cases h;rcases DataW.trod_slice hu hx with ⟨rfl,rfl⟩|⟨a,len,cap,elems,rest,m,rfl,rfl,rfl,_,hlc,hcm,hel,ij,_,_⟩;·refine⟨[.row .sl te.length none 0 0 λ_ _=>.dead undef],rfl,⟨trivial,trivial,.inr (.inl rfl),⟨eC _,λi j hi=>by omega,λi j hi=>by omega,λh=>(by cases h),λi j hi=>by omega⟩,λb k h=>(by cases h.1),?_⟩,trivial⟩;exact iU.row (xs:=[]) (by simp) (λr hr=>by cases hr) (λr hr=>by cases hr)
     ·obtain⟨g,o,spot⟩:=a;by_cases hl0:len=0;·subst hl0;refine⟨[.row .sl te.length (some (g,o,spot)) 0 cap λ_ _=>.dead undef],rfl,⟨trivial,trivial,.inr (.inl rfl),⟨hlc,λi j hi=>by omega,λi j hi=>by omega,λh=>(by cases h),λi j hi=>by omega⟩,λb k h=>(by cases h.1),?_⟩,trivial⟩;exact iU.row (xs:=[]) (by simp) (λr hr=>by cases hr) (λr hr=>by cases hr)
      have ac3:spot=none:=by have:=ij 0 (by omega);rw[cm (by omega),kM] at this;obtain⟨vs,e1,e2⟩:=this;exact agz hpos e1
      subst ac3
      have hex:∀i,∃(vs:List Value) (l:List C),i<len->w.cells? 0 ((⟨g,o,none⟩:Addr).add (i*P.cellsOf e)) (P.cellsOf e)=some vs/\kU w te vs l:=λi=>by
       by_cases hi:i<len;·have:=ij i hi;rw[cm (by omega),kM] at this;obtain⟨vs,e1,e2⟩:=this;obtain⟨l,hl⟩:=trod_good n true _ _ h1 _ _ _ e2;exact⟨vs,l,λ_=>⟨e1,hl⟩⟩
       ·exact⟨[],[],λh=>(hi h).elim⟩
      let vs:=λi=>(hex i).choose;let l:=λi=>(hex i).choose_spec.choose;have hvl:∀i,i<len->w.cells? 0 ((⟨g,o,none⟩:Addr).add (i*P.cellsOf e)) (P.cellsOf e)=some (vs i)/\kU w te (vs i) (l i):=λi=>(hex i).choose_spec.choose_spec
      have hij:∀i j,i<len->j<te.length->∃ty,te[j]?=some ty/\(l i)[j]?=some ((l i).getD j (.dead undef))/\w.cell? ⟨g,o+i*te.length+j,none⟩=some ((l i).getD j (.dead undef)).val/\Dk w ty ((l i).getD j (.dead undef)):=λi j hi hj=>by
       obtain⟨e1,e2⟩:=hvl i hi;obtain⟨ty,c,a1,a2,a3,a4⟩:=JX e2 hj;have hc:(l i).getD j (.dead undef)=c:=by rw[iT,a2];rfl
       rw[hc];obtain⟨_,_,e3⟩:=World.cells?_some e1;have e4:=e3 j (by omega);rw[a3] at e4;refine⟨ty,a1,a2,?_,a4⟩;rw[<-e4];congr 1;rw[hl];unfold Addr.add;split<;>split<;>simp_all
      have hb:∀i j,i<len->j<te.length->g<w.heap.size:=λi j hi hj=>by obtain⟨_,_,_,h3,_⟩:=hij i j hi hj;exact World.block_lt_of_cell? w _ h3
      refine⟨[.row .sl te.length (some (g,o,none)) len cap λi j=>(l i).getD j (.dead undef)],rfl,⟨trivial,trivial,.inr (.inl rfl),⟨hlc,λi j hi hj=>⟨g,o,rfl,?_,λ_=>hb i j hi hj⟩,λi j hi hj=>?_,λh=>(by cases h),λi j hi hj b k hf=>?_⟩,λb k h=>(by cases h.1),?_⟩,trivial⟩;·obtain⟨ty,_,_,h3,h4⟩:=hij i j hi hj;exact h3
      ·obtain⟨ty,_,_,h3,h4⟩:=hij i j hi hj;exact⟨h4.cell,h4.cO,h4.fits,h4.ok⟩
      ·obtain⟨ty,_,_,h3,h4⟩:=hij i j hi hj;exact(h4.fp b k hf).elim
      ·refine iU.row (by simpa using jo hlc hcm) (λr hr=>?_) λr hr j ty x hty Ks=>?_;·simp only[bg,s6] at hr;obtain⟨i,_,rfl⟩:=hr;simp
       ·simp only[bg,s6] at hr;obtain⟨i,hi,rfl⟩:=hr
        have hj:j<te.length:=by
         rcases gI j te.length with h|h;·exact h
         ·rw[kQ h] at hty;cases hty
        obtain⟨ty',e1,_,_,h4⟩:=hij i j hi hj;rw[e1] at hty;cases hty;rw[cR,tj hj] at Ks;simp only[cg,dP] at Ks;subst Ks;exact h4.zM
    ·cases h
   ·cases h
  ·rename_i fs hu;simp only[kM] at h;obtain⟨te,h1,h⟩:=h;split at h
   ·rename_i hl;cases h;obtain⟨xs,m,rfl,rfl,hcs,hxl,ij⟩:=DataW.trod_struct hu hx
    obtain⟨Cs,hC⟩:=Uc (cs:=cs) (λt ts' fuel cs' x hr ht hm=>trod_good n deep t ts' hr fuel cs' x ht) fs.toList 0 ts h1 λf hf=>by
     obtain⟨i,hi,rfl⟩:=vO hf;have hi':i<fs.size:=by simpa using hi
     have:=ij i (fs[i]) (by simp[hi']);rw[cm (by omega)] at this;exact⟨_,_,by simpa using this⟩
    refine⟨Cs,?_⟩;rw[Iq,hl,<-hcs,vF] at hC;exact hC
   ·cases h
  ·cases h
def MZ:∀(n:Nat) (deep:Bool) (t:TypeId) (ts:List Ty),jl P n deep t=some ts->∀(fuel:Nat) (cs:List Value) (x:DataW H×List MemPlace),DataW.trod enc P w 0 (λ_=>true) held fuel t cs=some x->DataW.trod enc P w 0 (λb=>decide (b<w.heap.size)) held fuel t cs=some x
 |0,_,_,_,h,_,_,_,_=>by cases h
 |n+1,deep,t,ts,h,0,cs,x,hx=>by simp[DataW.trod] at hx
 |n+1,deep,t,ts,h,fuel+1,cs,x,hx=>by
  simp only[jl] at h;split at h;·rename_i hu;obtain⟨b,rfl,rfl⟩:=DataW.trod_bool hu hx;simp[DataW.trod,hu]
  ·rename_i k hu;obtain⟨m,rfl,rfl,hw⟩:=DataW.trod_int hu hx;simp[DataW.trod,hu,hw]
  ·rename_i hu;obtain⟨s,rfl,rfl,hw⟩:=DataW.trod_string hu hx;simp[DataW.trod,hu,hw]
  ·rename_i e hu;split at h
   ·simp only[kM] at h;obtain⟨te,h1,h⟩:=h;split at h
    ·rename_i hl;obtain⟨hl,hpos⟩:=hl;rcases DataW.trod_slice hu hx with ⟨rfl,rfl⟩|⟨a,len,cap,elems',rest',m,_,rfl,_⟩;·simp[DataW.trod,hu]
     ·unfold DataW.trod at hx⊢;simp only[hu] at hx⊢;split at hx
      ·rename_i hc;rw[au hc];simp only[kN,kM,cY] at hx⊢;obtain⟨elems,he,rest,uh,rfl⟩:=hx;have one:∀(i:Nat) (y:DataW H×List MemPlace),(w.cells? 0 (a.add (i*P.cellsOf e)) (P.cellsOf e)).bind (DataW.trod enc P w 0 (λ_=>true) held fuel e)=some y->(w.cells? 0 (a.add (i*P.cellsOf e)) (P.cellsOf e)).bind (DataW.trod enc P w 0 (λb=>decide (b<w.heap.size)) held fuel e)=some y:=λi y hv=>by simp only[kM] at hv⊢;obtain⟨cs',iH,hy'⟩:=hv;exact⟨cs',iH,MZ n true _ _ h1 _ _ _ hy'⟩
       refine⟨elems,mapM_carry he λi y _ _ hv=>one i y hv,rest,?_,rfl⟩;by_cases hb:a.block<w.heap.size;·rw[au (by simpa using hb)];exact mapM_carry uh λi y _ _ hv=>one (len+i) y hv
       ·rw[aC (by simpa using hb)]
        have:cap - len=0:=by
         rcases NA (cap - len) with h|h;·exact h
         ·have h0:=mapM_some_get uh 0 0 (by simp[h]);have hl':0<rest.length:=by have:=mapM_some_length uh;simp at this;omega
          rw[cm hl',kM] at h0;obtain⟨vs,e1,_⟩:=h0;have:=World.cells?_block e1 hpos;refine(hb ?_).elim;unfold Addr.add at this;split at this<;>exact this
        rw[this] at uh;exact uh
      ·cases hx
    ·cases h
   ·cases h
  ·rename_i fs hu;simp only[kM] at h;obtain⟨te,h1,h⟩:=h;unfold DataW.trod at hx⊢;simp only[hu] at hx⊢
   have each:∀(o:Nat) (l:List Field) (ts:List Ty),yM P (jl P n deep) o l=some ts->∀f∈l,∃t1,jl P n deep f.type=some t1:=by
    intro o l;induction l generalizing o with
    |nil=>intro _ _ f hf;cases hf
    |cons f l ih=>
     intro ts h f' hf';simp only[yM] at h;split at h
     ·simp only[kM] at h;obtain⟨t1,e1,h⟩:=h;split at h
      ·simp only[kN] at h;obtain⟨t2,e2,_⟩:=h;rcases b9.1 hf' with rfl|hf';·exact⟨t1,e1⟩
       ·exact ih _ _ e2 f' hf'
      ·cases h
     ·cases h
   split at hx;·rename_i hc;rw[au hc];simp only[kN] at hx⊢;obtain⟨xs,hx,rfl⟩:=hx;refine⟨xs,mapM_carry hx λf y hf _ hv=>?_,rfl⟩;obtain⟨t1,e1⟩:=each _ _ _ h1 f hf;exact MZ n deep _ _ e1 _ _ _ hv
   ·cases hx
  ·cases h
inductive mE where
 |one (ty:Ty)
 |agg (tys:List Ty)
inductive tA:mE->X->Prop
 |one {ty x}:iU ty x->tA (.one ty) x
 |agg {tys:List Ty} {l:List X}:l.length=tys.length->(∀(j:Nat) ty x,tys[j]?=some ty->l[j]?=some x->iU ty x)->tA (.agg tys) (.agg l)
def tE(P:Program)(t:TypeId):Option mE:=match P.underlying t with
 |some (.struct _)=>(jl P 20 true t).map .agg
 |some .bool=>some (.one .bool)
 |some (.int k)=>some (.one (.int k))
 |some .string=>some (.one .str)
 |some (.slice _)=>(jl P 20 true t).bind fun
  |[ty]=>some (.one ty)
  |_=>none
 |_=>none
def Oz{c:C}(h1:c.cell)(h2:c.cO):c.bare:=by cases c<;>first|trivial|exact h2.elim
structure N5 (w:World) (a:mE) (v:Value) (c:C):Prop where
 val:c.val=v
 ok:c.ok w (Zf (λb _=>b<w.heap.size) λ_ _=>False)
 bare:c.bare
 fp:∀b k,¬c.fp b k
 zM:tA a c.er
def Ep{ty:Ty}{cs:List Value}{Cs:List C}{v:Value}(h:kU w [ty] cs Cs)(e:cs=[v]):∃c,N5 w (.one ty) v c:=by
 subst e;match Cs,h with
 |[c],⟨h1,h2,_⟩=>exact⟨c,h1,h2.ok,Oz h2.cell h2.cO,h2.fp,.one h2.zM⟩
def W4{r:Reach}{base:Nat}{t:TypeId}{v:Value}{d:DataW H}{p:List MemPlace}{a:mE}(ha:tE P t=some a)(hv:Value.okWide P w r base t v)(hd:DataW.Trod enc P w 0 sp held t v d p):∃c,N5 w a v c:=by
 obtain⟨fuel,hf⟩:=hd;unfold tE at ha;split at ha
 ·rename_i fs hu;simp only[kN] at ha;obtain⟨ts,ht,rfl⟩:=ha;unfold Value.okWide at hv;rw[hu] at hv;obtain⟨cs,rfl,_,ts',_,_,hcell⟩:=hv;obtain⟨Cs,hC⟩:=trod_good _ _ _ _ ht _ _ _ hf;obtain⟨l1,l2,l3⟩:=QJ hC;have ij:∀j,j<Cs.length->∃ty,ts[j]?=some ty/\Dk w ty (Cs.getD j (.dead undef)):=λj hj=>by obtain⟨ty,c,a1,a2,a3,a4⟩:=JX hC (j:=j) (by omega);exact⟨ty,a1,by rw[iT,a2];exact a4⟩
  refine⟨.agg Cs.length λj=>Cs.getD j (.dead undef),?_,⟨λj hj=>?_,λj hj b k hf=>?_⟩,λj hj=>?_,λb k ⟨j,hj,hf⟩=>?_,?_⟩;·show Value.agg _=_;congr 1;apply oK;show (List.range Cs.length).map (λj=>(Cs.getD j (.dead undef)).val)=cs.toList;have:(Value.agg cs).cells.toList=cs.toList:=rfl;rw[<-this,l3];letI:Bs:=⟨w⟩;exact l9 Cs _ C.val
  ·obtain⟨_,_,h⟩:=ij j hj;exact⟨h.cell,h.ok⟩
  ·obtain⟨_,_,h⟩:=ij j hj;exact(h.fp b k hf).elim
  ·obtain⟨_,_,h⟩:=ij j hj;exact Oz h.cell h.cO
  ·obtain⟨_,_,h⟩:=ij j hj;exact h.fp b k hf
  ·refine tA.agg (by simpa using l2) λj ty x hty hx=>?_
   have hj:j<Cs.length:=by
    rcases gI j Cs.length with h|h;·exact h
    ·rw[kQ (by simpa using h)] at hx;cases hx
   obtain⟨ty',e1,h⟩:=ij j hj;rw[e1] at hty;cases hty;rw[cR,tj hj] at hx;simp only[cg,dP] at hx;subst hx;exact h.zM
 ·rename_i hu;cases ha;obtain⟨Cs,hC⟩:=trod_good 1 true t [.bool] (by simp[jl,hu]) _ _ _ hf;obtain⟨b,hb,_⟩:=DataW.trod_bool hu hf;exact Ep hC (v:=v) (by unfold Value.okWide at hv;rw[hu] at hv;unfold Cell.okWide at hv;rw[hu] at hv;unfold Cell.ok at hv;rw[hu] at hv;cases v<;>first|rfl|(simp at hv;done))
 ·rename_i k hu;cases ha;obtain⟨m,hb,_⟩:=DataW.trod_int hu hf;obtain⟨Cs,hC⟩:=trod_good 1 true t [.int k] (by simp[jl,hu]) _ _ _ hf;exact Ep hC (v:=v) (by unfold Value.okWide at hv;rw[hu] at hv;unfold Cell.okWide at hv;rw[hu] at hv;unfold Cell.ok at hv;rw[hu] at hv;cases v<;>first|rfl|(simp at hv;done))
 ·rename_i hu;cases ha;obtain⟨m,hb,_⟩:=DataW.trod_string hu hf;obtain⟨Cs,hC⟩:=trod_good 1 true t [.str] (by simp[jl,hu]) _ _ _ hf;exact Ep hC (v:=v) (by unfold Value.okWide at hv;rw[hu] at hv;unfold Cell.okWide at hv;rw[hu] at hv;unfold Cell.ok at hv;rw[hu] at hv;cases v<;>first|rfl|(simp at hv;done))
 ·rename_i e hu;simp only[kM] at ha;obtain⟨ts,ht,ha⟩:=ha;split at ha
  ·rename_i ty;cases ha;have hc:Cell.okWide P w r base t v:=by unfold Value.okWide at hv;rw[hu] at hv;exact hv
   have hv1:v.cells.toList=[v]:=by unfold Cell.okWide at hc;rw[hu] at hc;unfold Cell.ok at hc;rw[hu] at hc;cases v<;>first|rfl|(simp at hc;done)
   obtain⟨Cs,hC⟩:=trod_good _ _ _ _ ht _ _ _ hf;exact Ep hC hv1
  ·cases ha
 ·cases ha
def vR:List mE->List X->Prop
 |[],[]=>True
 |a::as,x::xs=>tA a x/\vR as xs
 |_,_=>False
def On{r:Reach}{base:Nat}:∀{ts:List TypeId} {as:List mE} {vs:List Value} {ds:List (DataW H)} {p:List MemPlace},ts.map (tE P)=as.map some->
  (∀(j:Nat) t v,ts[j]?=some t->vs[j]?=some v->Value.okWide P w r base t v)->DataW.TrodAll enc P w 0 sp held ts vs ds p->
  ∃cs:List C,cs.map C.val=vs/\(∀c∈cs,c.ok w (Zf (λb _=>b<w.heap.size) λ_ _=>False)/\c.bare/\∀b k,¬c.fp b k)/\vR as (cs.map C.er)
 |[],[],[],[],_,_,_,_=>⟨[],rfl,λ_ h=>(by cases h),trivial⟩
 |t::ts,a::as,v::vs,d::ds,_,ha,hv,⟨p,q,h1,h2,_⟩=>by
  simp only[bn,vK] at ha;obtain⟨c,hc⟩:=W4 ha.1 (hv 0 t v rfl rfl) h1;obtain⟨cs,e1,e2,e3⟩:=On ha.2 (λj t' v' ht ey=>hv (j+1) t' v' (by simpa using ht) (by simpa using ey)) h2;refine⟨c::cs,by simp[hc.val,e1],λx hx=>?_,⟨hc.zM,e3⟩⟩;rcases b9.1 hx with rfl|hx;·exact⟨hc.ok,hc.bare,hc.fp⟩
  ·exact e2 x hx
def akN{r:Reach}{base:Nat}{ts:List TypeId}{as:List mE}{vs:List Value}{ds:List (DataW H)}{p:List MemPlace}{f:FuncId}(ha:ts.map (tE P)=as.map some)
  (hv:∀(j:Nat) t v,ts[j]?=some t->vs[j]?=some v->Value.okWide P w r base t v)(hd:DataW.TrodAll enc P w 0 sp held ts vs ds p)
  (hAC:∀xs,vR as xs->@AC ⟨w⟩ P f xs λr _=>r=.bool true):Calls P f vs.toArray w λe w'=>e=.returned (.bool true)/\Below w.heap.size w w':=by
 obtain⟨cs,rfl,hcs,hc⟩:=On ha hv hd;refine(hAC _ hc w (λb _=>b<w.heap.size) (λ_ _=>False) cs rfl ⟨λx hx=>(hcs x hx).1,λx hx=>(hcs x hx).2.1,λx hx b k hf=>((hcs x hx).2.2 b k hf).elim,λb k h=>h.elim id False.elim,?_⟩ λb hb=>⟨rfl,λk=>.inl hb⟩).mono λe w' ⟨r,ps,aF,hD,hr⟩=>?_;·refine qG.2 λi j hi hj _ b k hf=>((hcs _ (cy hi)).2.2 b k hf).elim
 ·letI:Bs:=⟨w⟩;have hr':=ru hr;subst hr';exact⟨hD.ends,(hD.ext.mono (S':=λ_ _=>False) λb k ⟨x,hx,hf⟩ _=>(hcs x hx).2.2 b k hf).below⟩
def W3{t:TypeId}{a:mE}(h:tE P t=some a):∃n deep ts,jl P n deep t=some ts:=by
 unfold tE at h;split at h;·simp only[kN] at h;obtain⟨ts,ht,_⟩:=h;exact⟨_,_,ts,ht⟩
 ·rename_i hu;exact⟨1,true,[.bool],by simp[jl,hu]⟩
 ·rename_i k hu;exact⟨1,true,[.int k],by simp[jl,hu]⟩
 ·rename_i hu;exact⟨1,true,[.str],by simp[jl,hu]⟩
 ·simp only[kM] at h;obtain⟨ts,ht,_⟩:=h;exact⟨_,_,ts,ht⟩
 ·cases h
def ajx{w':World}(hb:Below w.heap.size w w'):∀{ts:List TypeId} {as:List mE} {vs:List Value} {ds:List (DataW H)} {p:List MemPlace},ts.map (tE P)=as.map some->
  DataW.TrodAll enc P w 0 (λ_=>true) held ts vs ds p->DataW.TrodAll enc P w' 0 (λb=>decide (b<w.heap.size)) held ts vs ds p
 |[],[],[],[],_,_,h=>h
 |t::ts,a::as,v::vs,d::ds,_,ha,⟨p,q,⟨fuel,h1⟩,h2,e⟩=>by simp only[bn,vK] at ha;obtain⟨n,deep,tt,ht⟩:=W3 ha.1;have h3:=MZ n deep t tt ht _ _ _ h1;exact⟨p,q,⟨fuel,DataW.trod_carry _ _ _ _ h3 λm hm=>hb.same (DataW.trod_lt _ _ _ _ h3 m hm)⟩,ajx hb ha.2 h2,e⟩
end
end M
namespace M
open Go
def vS(ts:List Ty)(r:List X):Prop:=r.length=ts.length/\∀(j:Nat) ty x,ts[j]?=some ty->r[j]?=some x->iU ty x
def vS.nil{r:List X}(h:vS [] r):r=[]:=Iw.1 h.1
def vS.cons{ty:Ty}{ts:List Ty}{r:List X}(h:vS (ty::ts) r):∃x r',r=x::r'/\iU ty x/\vS ts r':=by
 obtain⟨h1,h2⟩:=h;cases r with
 |nil=>cases h1
 |cons x r=>exact⟨x,r,rfl,h2 0 ty x rfl rfl,by simpa using h1,λj ty x ht hx=>h2 (j+1) ty x (by simpa using ht) (by simpa using hx)⟩
def R1{α:Type}{e:α->List X}{ok:α->Prop}:∀{xs:List (List X)},(∀r∈xs,∃a,r=e a/\ok a)->∃l:List α,xs=l.map e/\∀a∈l,ok a
 |[],_=>⟨[],rfl,λ_ h=>by cases h⟩
 |r::xs,h=>by
  obtain⟨a,e1,e2⟩:=h r (bq ..);obtain⟨l,e3,e4⟩:=R1 (λr hr=>h r (bO _ hr));refine⟨a::l,by simp[e1,e3],λb hb=>?_⟩;rcases b9.1 hb with rfl|hb;·exact e2
  ·exact e4 b hb
def YK{α:Type}(e:α->List X)(ok:α->Prop){ts:List Ty}{x:X}(h:iU (.row ts) x)(hr:∀r,vS ts r->∃a,r=e a/\ok a):∃l:List α,x=.row .sl ts.length (l.map e)/\l.length<=9223372036854775807/\∀a∈l,ok a:=by
 cases h with
 |row h1 h2 h3=>rename_i xs;obtain⟨l,rfl,hl⟩:=R1 (e:=e) (ok:=ok) (xs:=xs) λr hr'=>hr r ⟨h2 r hr',h3 r hr'⟩;rw[cZ] at h1;exact⟨l,rfl,h1,hl⟩
def alh{ty:Ty}{x:X}(h:tA (.one ty) x):iU ty x:=by
 cases h with
 |one h=>exact h
def ali{a:mE}{as:List mE}{xs:List X}(h:vR (a::as) xs):∃x xs',xs=x::xs'/\tA a x/\vR as xs':=by
 match xs,h with
 |x::xs',⟨h1,h2⟩=>exact⟨x,xs',rfl,h1,h2⟩
def alj{xs:List X}(h:vR [] xs):xs=[]:=by
 match xs,h with
 |[],_=>rfl
structure akh (d:aQ):Prop where
 hb:d.cells.length<=9223372036854775807
 hs:∀s∈d.cells,s.length<=9223372036854775807
 hb':d.pending.length<=9223372036854775807
 hs':∀s∈d.pending,s.text.length<=9223372036854775807
 hi:∀s∈d.pending,-9223372036854775808<=s.at_/\s.at_<=9223372036854775807
def YJ{x:X}(h:iU (.int .u8) x):∃b:UInt8,x=.int .u8 (b.toNat:Int):=by
 cases h with
 |int h=>rename_i n;have h':(decide (IntKind.u8.min<=n) && decide (n<=IntKind.u8.max))=true:=h;rw[az,aY,aY] at h';have h1:0<=n:=h'.1;have h2:n<=255:=h'.2;refine⟨UInt8.ofNat n.toNat,?_⟩;rw[Ii];congr 1;omega
def alk{x:X}(h:iU (.row [.int .u8]) x):∃l:List UInt8,x=.row .sl 1 (l.map eU)/\l.length<=9223372036854775807/\∀b∈l,True:=
 YK eU (λ_=>True) h λr hr=>by obtain⟨x,r',rfl,h1,h2⟩:=hr.cons;obtain rfl:=h2.nil;obtain⟨b,rfl⟩:=YJ h1;exact⟨b,rfl,trivial⟩
end M
namespace M
open Go
def adW{γ:Type}{f:ah->cv}(st:γ->ah)(μ:γ->Nat)(Inv:γ->Prop)(E:γ->ah)
  (h:∀g,Inv g->(∃g',Inv g'/\f (st g)=some (.exit 0,E g'))\/∃g',Inv g'/\μ g'<μ g/\f (st g)=some (.normal,st g'))(g:γ)(hg:Inv g):∃g',Inv g'/\aI f (st g)=some (.exit 0,E g'):=by
 suffices H:∀n g,μ g=n->Inv g->∃g',Inv g'/\aI f (st g)=some (.exit 0,E g') from H _ g rfl hg
 intro n;induction n using Nat.strongRecOn with
 |ind n ih=>
  intro g hn hI;rcases h g hI with ⟨g',h1,h2⟩|⟨g',h1,h2,h3⟩;·exact⟨g',h1,by rw[cT,h2];rfl⟩
  ·obtain⟨g2,h4,h5⟩:=ih _ (hn▸h2) g' rfl h1;exact⟨g2,h4,by rw[cT,h3];exact h5⟩
end M
namespace M
open Go
def Ug(m:Nat)(h:m<256):qE [[.int .u8 (m:Int)]]=some [UInt8.ofNat m]:=by
 have:=M1 [UInt8.ofNat m];have e:((UInt8.ofNat m).toNat:Int)=m:=by rw[Ii];omega
 simp only[bn,lF,e] at this;exact this
def M8{n:Int}(h1:0<=n)(h2:n<256):IntKind.u8.wrap n=n:=by simp only[IntKind.wrap,IntKind.signed,IntKind.bits,Bool.false_and,fA,dQ];omega
def aS(n:Nat):ag:=Lib.decDigits n
def Sc:∀(n:Nat) (out:ag),n≠0->pX n out=aS n++out:=by
 intro n;induction n using Nat.strongRecOn with
 |ind n ih=>
  intro out h;unfold pX aS;rw[qJ h,Lib.decDigits];by_cases h1:n<10
  ·have e:n / 10=0:=by omega
   have e2:n%10=n:=by omega
   rw[kO h1,e,e2];unfold pX;rw[kO rfl];rfl
  ·rw[qJ h1,ih (n / 10) (by omega) _ (by omega)];unfold aS;rw[lH];rfl
def DU:aS 0=[48]:=by unfold aS;rw[Lib.decDigits];rfl
def o9(k:Nat):∀(n:Nat),n<10^(k+1)->(aS n).length<=k+1:=by
 induction k with
 |zero=>intro n h;unfold aS;rw[Lib.decDigits,kO (by simpa using h)];simp
 |succ k ih=>
  intro n h;unfold aS;rw[Lib.decDigits];by_cases h1:n<10;·rw[kO h1];simp
  ·rw[qJ h1,e9];have:=ih (n / 10) (by rw[Ih] at h;omega);unfold aS at this;simp only[cu,iC];omega
def KU(n:Nat):Lib.itoa (n:Int)=aS n:=by unfold Lib.itoa aS;rw[aC (by omega)];rfl
def Ba:List X->Option X
 |[.int .i64 n]=>if -9223372036854775808<=n/\n<=9223372036854775807 then some (.str ⟨(Go.Lib.itoa n).toArray⟩) else none
 |_=>none
def adj(f:FuncId)(n:Nat)(h:n<10^18):jC f Ba f [.int .i64 (n:Int)]=some (.str ⟨(aS n).toArray⟩,[.dead]):=by
 have h1:(n:Int)<=9223372036854775807:=by omega
 have h2:=o9 17 n (by omega);simp[jC,Ba,KU,scalar,CK,h1];omega
end M
namespace M
open Go
def wS(s:ag):Nat:=s.length
def wL{α:Type}(w:α->Nat)(l:List α):Nat:=l.length+(l.map w).sum
def qF{α:Type}{w:α->Nat}:∀{l:List α} {a:α},a∈l->w a<=wL w l
 |b::l,a,h=>by
  rcases b9.1 h with rfl|h;·simp[wL];omega
  ·have:=qF (w:=w) h;simp[wL] at this⊢;omega
def bE{α:Type}{w:α->Nat}(l:List α):l.length<=wL w l:=by unfold wL;omega
def bI(n:Int):Prop:=-9223372036854775808<=n/\n<=9223372036854775807
def bS(s:ag):Prop:=s.length<=9223372036854775807
def bB(_:Bool):Prop:=True
def bL{α:Type}(b:α->Prop)(l:List α):Prop:=l.length<=9223372036854775807/\∀a∈l,b a
@[simp] def eI(n:Int):List X:=[.int .i64 n]
@[simp] def amW(m:Md)(l:List Int):X.bV m (l.map eI)=l.map eI:=by induction l<;>simp_all[X.bV,X.dS,X.md]
@[simp] def akX(l:List Int):X.clean.bz (l.map eI)=true:=by induction l<;>simp_all[X.clean.bz,X.clean.cz,X.clean]
structure aJ where
 name:ag
 value:ag
 deriving DecidableEq
@[simp] def aR(a:aJ):List X:=[.str ⟨(a.name).toArray⟩,.str ⟨(a.value).toArray⟩]
@[simp] def amV(m:Md)(l:List aJ):X.bV m (l.map aR)=l.map aR:=by induction l<;>simp_all[X.bV,X.dS,X.md]
@[simp] def akW(l:List aJ):X.clean.bz (l.map aR)=true:=by induction l<;>simp_all[X.clean.bz,X.clean.cz,X.clean]
def aO(a:aJ):Nat:=a.name.length+a.value.length
structure Ou (x:aJ):Prop where
 ams:bS x.name
 amE:bS x.value
structure bP where
 status:Int
 fields:List aJ
 body:ag
 deriving DecidableEq
@[simp] def jM(m:Md)(a:bP):List X:=[.int .i64 a.status,.row m 2 ((a.fields).map aR),.str ⟨(a.body).toArray⟩]
@[simp] def am1(m m':Md)(l:List bP):X.bV m (l.map (jM m'))=l.map (jM m):=by induction l<;>simp_all[X.bV,X.dS,X.md]
@[simp] def ak2(l:List bP):X.clean.bz (l.map (jM .own))=true:=by induction l<;>simp_all[X.clean.bz,X.clean.cz,X.clean]
@[simp] def ald(l:List bP):X.clean.bz (l.map (jM .sl))=true:=by induction l<;>simp_all[X.clean.bz,X.clean.cz,X.clean]
def bZ(a:bP):Nat:=wL aO a.fields+a.body.length
structure Du (x:bP):Prop where
 amC:bI x.status
 adt:(bL Ou) x.fields
 adq:bS x.body
structure Rq where
 method:Int
 path:ag
 fields:List aJ
 body:ag
 deriving DecidableEq
@[simp] def nM(m:Md)(a:Rq):List X:=[.int .i64 a.method,.str ⟨(a.path).toArray⟩,.row m 2 ((a.fields).map aR),.str ⟨(a.body).toArray⟩]
@[simp] def am0(m m':Md)(l:List Rq):X.bV m (l.map (nM m'))=l.map (nM m):=by induction l<;>simp_all[X.bV,X.dS,X.md]
@[simp] def ak1(l:List Rq):X.clean.bz (l.map (nM .own))=true:=by induction l<;>simp_all[X.clean.bz,X.clean.cz,X.clean]
@[simp] def alc(l:List Rq):X.clean.bz (l.map (nM .sl))=true:=by induction l<;>simp_all[X.clean.bz,X.clean.cz,X.clean]
def lC(a:Rq):Nat:=a.path.length+wL aO a.fields+a.body.length
structure Dt (x:Rq):Prop where
 amr:bI x.method
 adw:bS x.path
 adt:(bL Ou) x.fields
 adq:bS x.body
structure Ob where
 path:ag
 names:List ag
 values:List ag
 resp:bP
 t:Int
 deriving DecidableEq
@[simp] def bw(m:Md)(a:Ob):List X:=[.str ⟨(a.path).toArray⟩,.row m 1 ((a.names).map eS),.row m 1 ((a.values).map eS),.int .i64 a.resp.status,.row m 2 ((a.resp.fields).map aR),.str ⟨(a.resp.body).toArray⟩,.int .i64 a.t]
@[simp] def amY(m m':Md)(l:List Ob):X.bV m (l.map (bw m'))=l.map (bw m):=by induction l<;>simp_all[X.bV,X.dS,X.md]
@[simp] def akZ(l:List Ob):X.clean.bz (l.map (bw .own))=true:=by induction l<;>simp_all[X.clean.bz,X.clean.cz,X.clean]
@[simp] def ala(l:List Ob):X.clean.bz (l.map (bw .sl))=true:=by induction l<;>simp_all[X.clean.bz,X.clean.cz,X.clean]
def b8(a:Ob):Nat:=a.path.length+wL wS a.names+wL wS a.values+bZ a.resp
structure IW (x:Ob):Prop where
 adw:bS x.path
 amt:(bL bS) x.names
 amF:(bL bS) x.values
 KW:Du x.resp
 KX:bI x.t
structure Kp where
 obj:Ob
 at_:Int
 seq:Int
 deriving DecidableEq
@[simp] def aE(m:Md)(a:Kp):List X:=[.str ⟨(a.obj.path).toArray⟩,.row m 1 ((a.obj.names).map eS),.row m 1 ((a.obj.values).map eS),.int .i64 a.obj.resp.status,.row m 2 ((a.obj.resp.fields).map aR),.str ⟨(a.obj.resp.body).toArray⟩,.int .i64 a.obj.t,.int .i64 a.at_,.int .i64 a.seq]
@[simp] def amX(m m':Md)(l:List Kp):X.bV m (l.map (aE m'))=l.map (aE m):=by induction l<;>simp_all[X.bV,X.dS,X.md]
@[simp] def akY(l:List Kp):X.clean.bz (l.map (aE .own))=true:=by induction l<;>simp_all[X.clean.bz,X.clean.cz,X.clean]
@[simp] def ak9(l:List Kp):X.clean.bz (l.map (aE .sl))=true:=by induction l<;>simp_all[X.clean.bz,X.clean.cz,X.clean]
def bK(a:Kp):Nat:=b8 a.obj
structure W7 (x:Kp):Prop where
 adu:IW x.obj
 ado:bI x.at_
 adx:bI x.seq
def cS(a:Wr):Nat:=a.text.length
structure Xb (x:Wr):Prop where
 ado:bI x.at_
 amD:bS x.text
def bh(a:aQ):Nat:=wL wS a.cells+wL cS a.pending
structure W5 (x:aQ):Prop where
 aml:(bL bS) x.cells
 amy:(bL Xb) x.pending
structure Bn where
 kind:Int
 a:ag
 b:ag
 t:Int
 deriving DecidableEq
@[simp] def ck(a:Bn):List X:=[.int .i64 a.kind,.str ⟨(a.a).toArray⟩,.str ⟨(a.b).toArray⟩,.int .i64 a.t]
@[simp] def amR(m:Md)(l:List Bn):X.bV m (l.map ck)=l.map ck:=by induction l<;>simp_all[X.bV,X.dS,X.md]
@[simp] def akS(l:List Bn):X.clean.bz (l.map ck)=true:=by induction l<;>simp_all[X.clean.bz,X.clean.cz,X.clean]
def aT(a:Bn):Nat:=a.a.length+a.b.length
structure Ot (x:Bn):Prop where
 RM:bI x.kind
 k_a:bS x.a
 k_b:bS x.b
 KX:bI x.t
structure Sh where
 aG:aQ
 ai:List Kp
 aD:List Bn
 next:Int
 seq:Int
 deriving DecidableEq
@[simp] def aH(m:Md)(a:Sh):List X:=[.row m 1 ((a.aG.cells).map eS),.row m 2 ((a.aG.pending).map eW),.row m 9 ((a.ai).map (aE m)),.row m 4 ((a.aD).map ck),.int .i64 a.next,.int .i64 a.seq]
@[simp] def am4(m m':Md)(l:List Sh):X.bV m (l.map (aH m'))=l.map (aH m):=by induction l<;>simp_all[X.bV,X.dS,X.md]
@[simp] def ak4(l:List Sh):X.clean.bz (l.map (aH .own))=true:=by induction l<;>simp_all[X.clean.bz,X.clean.cz,X.clean]
@[simp] def alf(l:List Sh):X.clean.bz (l.map (aH .sl))=true:=by induction l<;>simp_all[X.clean.bz,X.clean.cz,X.clean]
def bN(a:Sh):Nat:=bh a.aG+wL bK a.ai+wL aT a.aD
structure Xa (x:Sh):Prop where
 amm:W5 x.aG
 amw:(bL W7) x.ai
 adp:(bL Ot) x.aD
 amu:bI x.next
 adx:bI x.seq
structure Fl where
 q:Rq
 who:List Int
 old:Ob
 EA:Bool
 deriving DecidableEq
@[simp] def zS(m:Md)(a:Fl):List X:=[.int .i64 a.q.method,.str ⟨(a.q.path).toArray⟩,.row m 2 ((a.q.fields).map aR),.str ⟨(a.q.body).toArray⟩,.row m 1 ((a.who).map eI),.str ⟨(a.old.path).toArray⟩,.row m 1 ((a.old.names).map eS),.row m 1 ((a.old.values).map eS),.int .i64 a.old.resp.status,.row m 2 ((a.old.resp.fields).map aR),.str ⟨(a.old.resp.body).toArray⟩,.int .i64 a.old.t,.bool a.EA]
@[simp] def amU(m m':Md)(l:List Fl):X.bV m (l.map (zS m'))=l.map (zS m):=by induction l<;>simp_all[X.bV,X.dS,X.md]
@[simp] def akV(l:List Fl):X.clean.bz (l.map (zS .own))=true:=by induction l<;>simp_all[X.clean.bz,X.clean.cz,X.clean]
@[simp] def ak8(l:List Fl):X.clean.bz (l.map (zS .sl))=true:=by induction l<;>simp_all[X.clean.bz,X.clean.cz,X.clean]
structure W6 (x:Fl):Prop where
 KV:Dt x.q
 amG:(bL bI) x.who
 amx:IW x.old
 amo:bB x.EA
structure Se where
 q:Rq
 resp:bP
 t:Int
 deriving DecidableEq
@[simp] def zU(m:Md)(a:Se):List X:=[.int .i64 a.q.method,.str ⟨(a.q.path).toArray⟩,.row m 2 ((a.q.fields).map aR),.str ⟨(a.q.body).toArray⟩,.int .i64 a.resp.status,.row m 2 ((a.resp.fields).map aR),.str ⟨(a.resp.body).toArray⟩,.int .i64 a.t]
@[simp] def am3(m m':Md)(l:List Se):X.bV m (l.map (zU m'))=l.map (zU m):=by induction l<;>simp_all[X.bV,X.dS,X.md]
@[simp] def ak3(l:List Se):X.clean.bz (l.map (zU .own))=true:=by induction l<;>simp_all[X.clean.bz,X.clean.cz,X.clean]
@[simp] def ale(l:List Se):X.clean.bz (l.map (zU .sl))=true:=by induction l<;>simp_all[X.clean.bz,X.clean.cz,X.clean]
structure W9 (x:Se):Prop where
 KV:Dt x.q
 KW:Du x.resp
 KX:bI x.t
structure Rp where
 client:Int
 q:Rq
 resp:bP
 kind:Int
 t:Int
 obj:Ob
 aD:Int
 deriving DecidableEq
@[simp] def zT(m:Md)(a:Rp):List X:=[.int .i64 a.client,.int .i64 a.q.method,.str ⟨(a.q.path).toArray⟩,.row m 2 ((a.q.fields).map aR),.str ⟨(a.q.body).toArray⟩,.int .i64 a.resp.status,.row m 2 ((a.resp.fields).map aR),.str ⟨(a.resp.body).toArray⟩,.int .i64 a.kind,.int .i64 a.t,.str ⟨(a.obj.path).toArray⟩,.row m 1 ((a.obj.names).map eS),.row m 1 ((a.obj.values).map eS),.int .i64 a.obj.resp.status,.row m 2 ((a.obj.resp.fields).map aR),.str ⟨(a.obj.resp.body).toArray⟩,.int .i64 a.obj.t,.int .i64 a.aD]
@[simp] def amZ(m m':Md)(l:List Rp):X.bV m (l.map (zT m'))=l.map (zT m):=by induction l<;>simp_all[X.bV,X.dS,X.md]
@[simp] def ak0(l:List Rp):X.clean.bz (l.map (zT .own))=true:=by induction l<;>simp_all[X.clean.bz,X.clean.cz,X.clean]
@[simp] def alb(l:List Rp):X.clean.bz (l.map (zT .sl))=true:=by induction l<;>simp_all[X.clean.bz,X.clean.cz,X.clean]
structure W8 (x:Rp):Prop where
 ads:bI x.client
 KV:Dt x.q
 KW:Du x.resp
 RM:bI x.kind
 KX:bI x.t
 adu:IW x.obj
 adp:bI x.aD
structure Ca where
 jk:Sh
 mL:List Fl
 now:Int
 seen:List Se
 sent:List Rp
 deriving DecidableEq
@[simp] def DY(m:Md)(a:Ca):List X:=[.row m 1 ((a.jk.aG.cells).map eS),.row m 2 ((a.jk.aG.pending).map eW),.row m 9 ((a.jk.ai).map (aE m)),.row m 4 ((a.jk.aD).map ck),.int .i64 a.jk.next,.int .i64 a.jk.seq,.row m 13 ((a.mL).map (zS m)),.int .i64 a.now,.row m 8 ((a.seen).map (zU m)),.row m 18 ((a.sent).map (zT m))]
@[simp] def amS(m m':Md)(l:List Ca):X.bV m (l.map (DY m'))=l.map (DY m):=by induction l<;>simp_all[X.bV,X.dS,X.md]
@[simp] def akT(l:List Ca):X.clean.bz (l.map (DY .own))=true:=by induction l<;>simp_all[X.clean.bz,X.clean.cz,X.clean]
@[simp] def ak6(l:List Ca):X.clean.bz (l.map (DY .sl))=true:=by induction l<;>simp_all[X.clean.bz,X.clean.cz,X.clean]
structure bCa (x:Ca):Prop where
 amB:Xa x.jk
 amn:(bL W6) x.mL
 amv:bI x.now
 amz:(bL W9) x.seen
 amA:(bL W8) x.sent
structure De where
 kind:Int
 client:Int
 q:Rq
 a:Int
 resp:bP
 qT:Bn
 keep:List Bool
 deriving DecidableEq
@[simp] def DZ(m:Md)(a:De):List X:=[.int .i64 a.kind,.int .i64 a.client,.int .i64 a.q.method,.str ⟨(a.q.path).toArray⟩,.row m 2 ((a.q.fields).map aR),.str ⟨(a.q.body).toArray⟩,.int .i64 a.a,.int .i64 a.resp.status,.row m 2 ((a.resp.fields).map aR),.str ⟨(a.resp.body).toArray⟩,.int .i64 a.qT.kind,.str ⟨(a.qT.a).toArray⟩,.str ⟨(a.qT.b).toArray⟩,.int .i64 a.qT.t,.row m 1 ((a.keep).map eB)]
@[simp] def amT(m m':Md)(l:List De):X.bV m (l.map (DZ m'))=l.map (DZ m):=by induction l<;>simp_all[X.bV,X.dS,X.md]
@[simp] def akU(l:List De):X.clean.bz (l.map (DZ .own))=true:=by induction l<;>simp_all[X.clean.bz,X.clean.cz,X.clean]
@[simp] def ak7(l:List De):X.clean.bz (l.map (DZ .sl))=true:=by induction l<;>simp_all[X.clean.bz,X.clean.cz,X.clean]
structure bDe (x:De):Prop where
 RM:bI x.kind
 ads:bI x.client
 KV:Dt x.q
 k_a:bI x.a
 KW:Du x.resp
 amk:Ot x.qT
 amq:(bL bB) x.keep
end M
namespace M
open Go
def dH{β:Type}(p:β->Bool):Nat->List β->Option (Nat×β)
 |_,[]=>none
 |i,b::l=>if p b=true then some (i,b) else dH p (i+1) l
def wD{β:Type}{p:β->Bool}:∀{l:List β} {k i:Nat} {b:β},dH p k l=some (i,b)->k<=i/\l[i - k]?=some b/\p b=true
 |b'::l,k,i,b,h=>by
  unfold dH at h;split at h;·rename_i hp;cases h;exact⟨eC _,by simp,hp⟩
  ·obtain⟨h1,h2,h3⟩:=wD h;refine⟨by omega,?_,h3⟩;rw[show i - k=(i - (k+1))+1 by omega,Iu];exact h2
def Qi{β:Type}{p:β->Bool}:∀{l:List β} {k:Nat},dH p k l=none↔∀b∈l,¬p b=true
 |[],k=>by simp[dH]
 |b'::l,k=>by
  unfold dH;by_cases hp:p b'=true;·simp[hp]
  ·rw[aC hp,Qi];simp[hp]
def Bk{xt:Nat}{β:Type}{f:ah->cv}(l:List β)(st:Nat->ah)(p:β->Bool)(R:Nat->β->ah)(E:ah)
  (h:∀i b,l[i]?=some b->i<l.length->f (st i)=if p b=true then some (.ret,R i b) else some (.normal,st (i+1)))
  (hend:f (st l.length)=some (.exit xt,E)):
  aI f (st 0)=(dH p 0 l).elim (some (.exit xt,E)) λx=>some (.ret,R x.1 x.2):=by
 suffices H:∀(r:List β) (i:Nat),l.drop i=r->i<=l.length->aI f (st i)=(dH p i r).elim (some (.exit xt,E)) λx=>some (.ret,R x.1 x.2) from H l 0 rfl (oQ _)
 intro r;induction r with
 |nil=>
  intro i hr hi;have:i=l.length:=by have:=dr List.length hr;simp at this;omega
  subst this;rw[cT,hend];rfl
 |cons b r ih=>
  intro i hr hi;have hb:l[i]?=some b:=by have:=dr (λt:List β=>t[0]?) hr;simpa using this
  have hlt:i<l.length:=(aL.1 hb).1;have hd:l.drop (i+1)=r:=by have:=dr List.tail hr;simpa using this
  rw[cT,h i b hb hlt];unfold dH;by_cases hp:p b=true;·simp[hp,lv]
  ·simp only[hp];exact ih (i+1) hd hlt
def pW{xt:Nat}{β γ:Type}{f:ah->cv}(l:List β)(φ:β->List γ)(st:Nat->List γ->ah)(E:List γ->ah)
  (h:∀i b out,l[i]?=some b->i<l.length->out=(l.take i).flatMap φ->f (st i out)=some (.normal,st (i+1) (out++φ b)))
  (hend:∀out,out=l.flatMap φ->f (st l.length out)=some (.exit xt,E out)):
  aI f (st 0 [])=some (.exit xt,E (l.flatMap φ)):=by
 suffices H:∀(k i:Nat),i+k=l.length->aI f (st i ((l.take i).flatMap φ))=some (.exit xt,E (l.flatMap φ)) from H l.length 0 (by omega)
 intro k;induction k with
 |zero=>
  intro i hi;obtain rfl:i=l.length:=by omega
  rw[vF,cT,hend _ rfl];rfl
 |succ k ih=>
  intro i hi;have hlt:i<l.length:=by omega
  rw[cT,h i l[i] _ (cm hlt) hlt rfl];have:(l.take i).flatMap φ++φ l[i]=(l.take (i+1)).flatMap φ:=by rw[oO hlt,NR];simp
  simp only[this];exact ih (i+1) (by omega)
def zW{β γ:Type}(g:β->γ)(l:List β):l.flatMap (λb=>[g b])=l.map g:=by induction l<;>simp_all
def zX{β γ:Type}(g:β->γ)(l:List β)(i:Nat)(h:i<=l.length):((l.take i).flatMap (λb=>[g b])).length=i:=by rw[zW];simp;omega
end M
namespace M
open Go
def mX(b:UInt8):UInt8:=if 65<=b.toNat/\b.toNat<=90 then b+32 else b
def cD(s:ag):ag:=s.map mX
def s4(b:UInt8):Bool:=decide ((97<=b.toNat/\b.toNat<=122)\/(48<=b.toNat/\b.toNat<=57)\/b.toNat=45)
def en(s:ag):Bool:=aX s4 s && decide (1<=(s.length:Int)/\(s.length:Int)<=20)
def iR(lo:Nat)(b:UInt8):Bool:=decide (lo<=b.toNat/\b.toNat<=126)
def gi(s:ag):ag:=Lib.trimB s 32
def fP(s:ag):Bool:=aX (iR 32) s && decide (1<=(s.length:Int)/\(s.length:Int)<=60) && decide (gi s=s)
def cV(n:Int):ag:=if 0<=n/\n<=1000000 then aS n.toNat else []
def ic(b:UInt8):Bool:=decide (48<=b.toNat/\b.toNat<=57)
def lB(s:ag):Nat:=s.foldl (λx b=>10*x+b.toNat - 48) 0
def bx(s:ag):Option Nat:=if lB s<=1000000/\aS (lB s)=s then some (lB s) else none
def iw(s:ag):Bool:=aX (iR 33) s && decide (1<=(s.length:Int)/\(s.length:Int)<=60) && decide (s[0]?.map (λb:UInt8=>(b.toNat:Int))=some 47)
def JB{α:Type}(p:α->Bool):∀(a b:List α),(∃x∈a,p x=false)->(a++b).dropWhile p=a.dropWhile p++b
 |[],b,h=>by simp at h
 |x::a,b,h=>by
  simp only[fR,y6];by_cases hx:p x=true
  ·simp only[hx,cY];refine JB p a b ?_;obtain⟨y,hy,hp⟩:=h;rcases b9.1 hy with rfl|hy;·rw[hx] at hp;cases hp
   ·exact⟨y,hy,hp⟩
  ·simp[hx]
def JA{α:Type}(p:α->Bool):∀(a:List α),(∀x∈a,p x=true)->a.dropWhile p=[]
 |[],_=>rfl
 |x::a,h=>by rw[y6,au (h x (bq ..))];exact JA p a λy hy=>h y (bO _ hy)
def JC{α:Type}(p:α->Bool):∀{a:List α} {x:α},x∈a->p x=false->x∈a.dropWhile p
 |y::a,x,h,hp=>by
  rw[y6];by_cases hy:p y=true
  ·rw[au hy];rcases b9.1 h with rfl|h;·rw[hy] at hp;cases hp
   ·exact JC p h hp
  ·rw[aC hy];exact h
def PN{α:Type}(p:α->Bool)(l:List α):∃a,l=a++l.dropWhile p/\∀x∈a,p x=true:=by refine⟨l.takeWhile p,(List.takeWhile_append_dropWhile).symm,λx hx=>?_⟩;have:=List.all_takeWhile (l:=l) (p:=p);exact oR.1 this x hx
def ajw(p:UInt8->Bool)(l:List UInt8):(l.reverse.dropWhile p).reverse.dropWhile p=((l.dropWhile p).reverse.dropWhile p).reverse:=by
 by_cases h:∃x∈l,p x=false
 ·obtain⟨x,hx,hp⟩:=h;obtain⟨a,e1,h1⟩:=PN p l;have hm:x∈l.dropWhile p:=JC p hx hp
  have e2:l.reverse.dropWhile p=(l.dropWhile p).reverse.dropWhile p++a.reverse:=by
   conv=>lhs;rw[e1,Nx]
   exact JB p _ _ ⟨x,by simpa using hm,hp⟩
  rw[e2,Nx,U4];obtain⟨b,e3,h3⟩:=PN p (l.dropWhile p).reverse;generalize hd:(l.dropWhile p).reverse.dropWhile p=d at e3⊢;have ack:∃y∈d,p y=false:=⟨x,by rw[<-hd];exact JC p (by simpa using hm) hp,hp⟩;have e4:l.dropWhile p=d.reverse++b.reverse:=by have:=dr List.reverse e3;simpa using this
  have e5:(a++d.reverse).dropWhile p=d.reverse.dropWhile p:=by
   clear e1 e2 e3 hm;induction a with
   |nil=>rfl
   |cons y a ih=>rw[fR,y6,au (h1 y (bq ..))];exact ih λz hz=>h1 z (bO _ hz)
  rw[e5]
  have e6:(l.dropWhile p).dropWhile p=l.dropWhile p:=by
   have:∀l:List UInt8,(l.dropWhile p).dropWhile p=l.dropWhile p:=by
    intro l;induction l with
    |nil=>rfl
    |cons y l ih=>
     rw[y6];by_cases hy:p y=true;·rw[au hy];exact ih
     ·rw[aC hy,y6,aC hy]
   exact this l
  rw[e4] at e6;rw[JB p d.reverse b.reverse (by obtain⟨y,hy,hp⟩:=ack;exact⟨y,by simpa using hy,hp⟩)] at e6;exact List.append_cancel_right e6
 ·have h1:∀x∈l,p x=true:=λx hx=>by
   cases hp:p x with
   |true=>rfl
   |false=>exact absurd ⟨x,hx,hp⟩ h
  rw[JA p l h1,JA p l.reverse (λx hx=>h1 x (by simpa using hx))];rfl
def ajv(s:ag):gi s=Lib.trimRightB (Lib.trimLeftB s 32) 32:=ajw _ s
def Ub(s:ag):(gi s).length<=s.length:=by unfold gi Lib.trimB Lib.trimLeftB Lib.trimRightB;have h1:=(Ve (l:=(List.dropWhile (λx=>x==32) s.reverse).reverse) (λx=>x==(32:UInt8))).length_le;have h2:=(Ve (l:=s.reverse) (λx=>x==(32:UInt8))).length_le;simp only[Iy] at h1 h2;omega
def abK{α β:Type}(f:β->α->β)(l:List α)(a:α)(b:β):(l++[a]).foldl f b=f (l.foldl f b) a:=by simp
def Jw(n:Nat):aS n≠[]:=by intro h;have:(aS n).length=Lib.nDigits n:=Lib.decDigits_length n;rw[h] at this;have h2:=Lib.nDigits_pos n;rw[<-this] at h2;simp at h2
def Jy(n:Nat)(h:¬n<10):aS n=aS (n / 10)++[UInt8.ofNat (48+n%10)]:=by unfold aS;rw[Lib.decDigits,qJ h]
def Jx(n:Nat)(h:n<10):aS n=[UInt8.ofNat (48+n)]:=by unfold aS;rw[Lib.decDigits,kO h]
def wu(k:Nat)(h:k<10):(UInt8.ofNat (48+k)).toNat=48+k:=by rw[Ii];omega
def Uj:∀n:Nat,lB (aS n)=n:=by
 intro n;induction n using Nat.strongRecOn with
 |ind n ih=>
  by_cases h:n<10;·rw[Jx n h];simp only[lB,nE,List.foldl_nil,wu n h];omega
  ·rw[Jy n h];have:=ih (n / 10) (by omega);unfold lB at this⊢;rw[abK,this,wu _ (by omega)];omega
def Jv:∀n:Nat,aX ic (aS n)=true:=by
 intro n;induction n using Nat.strongRecOn with
 |ind n ih=>
  rw[ff];by_cases h:n<10;·rw[Jx n h];intro x hx;rw[fy.1 hx];unfold ic;rw[wu n h];simp;omega
  ·rw[Jy n h];intro x hx;rcases dO.1 hx with hx|hx;·exact ff.1 (ih _ (by omega)) x hx
   ·rw[fy.1 hx];unfold ic;rw[wu _ (by omega)];simp;omega
def lZ{s:ag}{n:Nat}:bx s=some n↔n<=1000000/\aS n=s:=by
 unfold bx;constructor
 ·intro h;split at h;·rename_i hc;cases h;exact hc
  ·cases h
 ·rintro ⟨h1,rfl⟩;rw[Uj,au ⟨h1,rfl⟩]
def nJ(n:Nat)(h:n<=1000000):(aS n).length<=7:=o9 6 n (by omega)
def FK(n:Nat)(h:n<=1000000):cV (n:Int)=aS n:=by unfold cV;rw[au (by omega)];rfl
def Sv(n:Nat)(h:n<=1000000):bx (cV n)=some n:=lZ.2 ⟨h,(FK n h).symm⟩
def aeA(s:ag)(h:s.length<=7):bx s=if s≠[]/\aX ic s=true/\cV (lB s)=s then some (lB s) else none:=by
 cases hr:bx s with
 |some n=>obtain⟨h1,rfl⟩:=lZ.1 hr;rw[Uj,au ⟨Jw n,Jv n,FK n h1⟩]
 |none=>
  rw[aC];rintro ⟨h1,h2,h3⟩
  have:bx s=some (lB s):=by
   refine lZ.2 ?_;unfold cV at h3;split at h3;·rename_i hc;exact⟨by omega,h3⟩
   ·exact absurd h3.symm h1
  rw[this] at hr;cases hr
def afA:∀(n acc:Nat) (l:List UInt8),acc*10^Lib.nDigits n+n<10000000000->Lib.parseUint10 acc (aS n++l)=Lib.parseUint10 (acc*10^Lib.nDigits n+n) l:=by
 intro n;induction n using Nat.strongRecOn with
 |ind n ih=>
  intro acc l hn;by_cases h:n<10;·rw[Jx n h];simp only[fR,j7,Lib.parseUint10,wu n h];rw[Lib.nDigits_small h] at hn⊢;rw[au (by omega),aC (by omega),aC (by omega)];congr 1;omega
  ·rw[Jy n h,lH];have e:=Lib.nDigits_big h;rw[e,Ih] at hn⊢;have hm:acc*(10^Lib.nDigits (n / 10)*10)=acc*10^Lib.nDigits (n / 10)*10:=by rw[Nat.mul_assoc]
   rw[hm] at hn⊢;rw[ih (n / 10) (by omega) acc _ (by omega)];have hd:=wu (n%10) (by omega);simp only[fR,j7,Lib.parseUint10,hd];rw[au (by omega),aC (by omega),aC (by omega)];congr 1;omega
def Oq(n:Nat)(h:n<=1000000):Lib.atoiAll (aS n)=.ok (n:Int):=by
 cases hd:aS n with
 |nil=>exact absurd hd (Jw n)
 |cons c r=>have hc:=ff.1 (Jv n) c (by rw[hd];exact bq ..);simp only[ic,aY] at hc;rw[Lib.atoiAll_plain c r (by omega) (by omega),<-hd];unfold Lib.parseMag;rw[aC (Jw n)];have:=afA n 0 [] (by omega);rw[mD] at this;rw[this];simp only[Lib.parseUint10,Lib.signless];rw[aC (by omega)];simp
def aez(s:ag)(n:Int)(h:Lib.atoiAll s=.ok n):(if 0<=n/\n<=1000000/\Lib.itoa n=s then some n.toNat else none)=bx s:=by
 split;·rename_i hc;symm;refine lZ.2 ⟨by omega,?_⟩;rw[<-KU,<-hc.2.2];congr 1;omega
 ·rename_i hc;cases hr:bx s with
  |none=>rfl
  |some m=>
   obtain⟨h1,rfl⟩:=lZ.1 hr;rw[Oq m h1] at h;obtain rfl:(m:Int)=n:=by injection h
   exact absurd ⟨by omega,by omega,KU m⟩ hc
def aeB(s:ag)(h:∀n,Lib.atoiAll s≠.ok n):bx s=none:=by
 cases hr:bx s with
 |none=>rfl
 |some m=>obtain⟨h1,rfl⟩:=lZ.1 hr;exact absurd (Oq m h1) (h m)
def Su(s:ag)(h:7<s.length):bx s=none:=by
 cases hr:bx s with
 |none=>rfl
 |some m=>obtain⟨h1,rfl⟩:=lZ.1 hr;have:=nJ m h1;omega
def bp(c:UInt8):ag->List ag
 |[]=>[[]]
 |b::s=>if b=c then []::bp c s else match bp c s with
  |w::ws=>(b::w)::ws
  |[]=>[[b]]
def yH(c:UInt8)(s:ag):bp c s≠[]:=by
 cases s with
 |nil=>simp[bp]
 |cons b s=>
  unfold bp;split;·simp
  ·split<;>simp
def jm(s:ag):List ag:=((bp 44 s).map gi).filter λw=>decide (w≠[])
end M
namespace M
open Go Go.RowKit
def oV(w w':World)(c:C):Prop:=(∀Z,c.ok w' Z)/\c.bare/\∀b k,c.fp b k->w.heap.size<=b
def WN[Bs]{P:Program}{f:FuncId}{xs:List X}{r:X}
  (h:∀w zl zb cs,cs.map C.er=xs->qL w zl zb cs->nH w->Calls P f (cs.map C.val).toArray w λe w'=>∃c:C,e=.returned c.val/\c.er=r/\Below w.heap.size w w'/\oV w w' c):
  AC P f xs λr' ps=>r'=r/\ps=xs.map λ_=>.dead:=by
 intro w zl zb cs e hA lS;refine(h w zl zb cs e hA λb hb=>(lS b hb).1).mono λe' w' ⟨c,he,hc,hb,c1,c2,c3⟩=>?_;have Kb:Ext (λb k=>∃x∈cs,x.fp b k) w w':=⟨hb.os,hb.tape,hb.output,hb.size,λb hl=>.inl (hb.block b hl)⟩;refine⟨c,cs.map λx=>.dead x.val,zl,⟨he,by rw[cH];rfl,Kb,⟨λx hx'=>?_,λx hx'=>?_,λx hx' b k hf=>?_,λb k hz=>kL (hA.cB b k (hz.imp id λh=>h.elim)) hb.size,?_⟩,λx hx' b k hf=>?_,λ_ _ h=>h,λ_ _ h=>.inl h⟩,hc,?_⟩
 ·rcases b9.1 hx' with rfl|hx';·exact c1 _
  ·obtain⟨y,_,rfl⟩:=bg.1 hx';trivial
 ·rcases b9.1 hx' with rfl|hx';·exact c2
  ·obtain⟨y,_,rfl⟩:=bg.1 hx';trivial
 ·rcases b9.1 hx' with rfl|hx';·have h1:=c3 b k hf;exact⟨λhz=>by have:=hA.cB b k (.inl hz);omega,λhz=>hz⟩
  ·obtain⟨y,_,rfl⟩:=bg.1 hx';exact hf.elim
 ·refine eZ.2 ⟨λx hx b k hf hf'=>?_,?_⟩;·obtain⟨y,_,rfl⟩:=bg.1 hx;exact hf'
  ·refine qG.2 λi j hi hj _ b k hf=>?_;obtain⟨y,_,hy⟩:=bg.1 (cy hi);rw[<-hy] at hf;exact hf.elim
 ·rcases b9.1 hx' with rfl|hx';·exact .inr (c3 b k hf)
  ·obtain⟨y,_,rfl⟩:=bg.1 hx';exact hf.elim
 ·rw[<-e];simp[cH,Im,C.er]
def eP(f0:FuncId)(g:List X->Option X):cw:=λf xs=>if f=f0 then (match g xs with
 |some r=>some (r,xs.map λ_=>.dead)
 |none=>none) else none
def uE[Bs]{P:Program}{f0:FuncId}{g:List X->Option X}
  (h:∀xs r,g xs=some r->∀w zl zb cs,cs.map C.er=xs->qL w zl zb cs->nH w->Calls P f0 (cs.map C.val).toArray w λe w'=>∃c:C,e=.returned c.val/\c.er=r/\Below w.heap.size w w'/\oV w w' c):(eP f0 g).Sound P:=λf xs o e=>by
 unfold eP at e;split at e
 ·rename_i hf;subst hf;split at e;·rename_i r hr;cases e;exact WN (h xs r hr)
  ·cases e
 ·cases e
def tU{c:C}{s:ByteArray}(h:c.er=.str s):c=.str s:=by cases c<;>simp[C.er] at h;rw[h]
def map_nil{l:List C}(h:l.map C.er=[]):l=[]:=by simpa using h
def map_cons{l:List C}{x:X}{xs:List X}(h:l.map C.er=x::xs):∃c cs,l=c::cs/\c.er=x/\cs.map C.er=xs:=by
 cases l with
 |nil=>simp at h
 |cons c cs=>simp at h;exact⟨c,cs,rfl,h.1,h.2⟩
def tX{w w':World}{s:ByteArray}(h:s.size<=9223372036854775807):oV w w' (.str s):=⟨λ_=>h,trivial,λ_ _ h=>h.elim⟩
def abL{w w':World}{k:IntKind}{n:Int}:oV w w' (.int k n):=⟨λ_=>trivial,trivial,λ_ _ h=>h.elim⟩
def JT{w w':World}{b:Bool}:oV w w' (.bool b):=⟨λ_=>trivial,trivial,λ_ _ h=>h.elim⟩
def CP(l:List C):C:=.ak l.length λj=>l.getD j (.dead undef)
def Lz{α β:Type}(l:List α)(d:α)(g:α->β):((List.range l.length).map λj=>g (l.getD j d))=l.map g:=by
 apply List.ext_getElem;·simp
 ·intro i h1 h2;simp at h1;simp[h1]
def Ud(l:List C):(CP l).er=.ak (l.map C.er):=by show X.ak _=_;rw[Lz l _ C.er]
def Ue(l:List C):(CP l).val=.tuple (l.map C.val).toArray:=by show Value.tuple _=_;rw[Lz l _ C.val]
def Qv{w w':World}{l:List C}(h:∀c∈l,oV w w' c/\c.fY/\∀b k,¬c.fp b k):oV w w' (CP l):=by
 have hm:∀j,j<l.length->l.getD j (.dead undef)∈l:=λj hj=>by simp[List.getD,hj]
 refine⟨λZ=>⟨λj hj=>⟨(h _ (hm j hj)).2.1,(h _ (hm j hj)).1.1 Z⟩,λj hj b k hf=>((h _ (hm j hj)).2.2 b k hf).elim⟩,λj hj=>(h _ (hm j hj)).1.2.1,λb k hf=>?_⟩;obtain⟨j,hj,hf⟩:=hf;exact((h _ (hm j hj)).2.2 b k hf).elim
def abM{w w':World}{g:Nat}{t:TypeId}{l:List ByteArray}(hg:w.heap.size<=g)(hb:w'.heap[g]?=some (.cells (l.map Value.string).toArray t (0,0)))(hs:∀s∈l,s.size<=9223372036854775807):
  oV w w' (.row .own 1 (some (g,0,none)) l.length l.length λi _=>.str (l.getD i ByteArray.empty)):=by
 have hm:∀j,j<l.length->l.getD j ByteArray.empty∈l:=λj hj=>by simp[List.getD,hj]
 refine⟨λZ=>⟨eC _,λi j hi hj=>⟨g,0,rfl,?_,λh=>absurd rfl h⟩,λi j hi hj=>⟨trivial,trivial,trivial,hs _ (hm i hi)⟩,λ_=>.inr ⟨g,0,_,t,(0,0),rfl,hb,?_,λk _ _=>?_⟩,λi j hi hj b k hf=>hf.elim⟩,trivial,λb k hf=>?_⟩
 ·obtain rfl:j=0:=by omega
  simp only[World.cell?,hb];simp[C.val,hi,Go.Value.oneCell']
 ·simp
 ·simp[World.frozen?,hb]
 ·obtain⟨_,h|⟨i,j,_,_,h⟩⟩:=hf;·obtain⟨o,h⟩:=h;have hgb:=dr Prod.fst (iA h);have hgb:g=b:=hgb;exact hgb▸hg
  ·exact h.elim
def af0(l:List ByteArray)(g cap:Nat):(C.row .own 1 (some (g,0,none)) l.length cap λi _=>.str (l.getD i ByteArray.empty)).er=.row .own 1 (l.map λs=>[.str s]):=by show X.row _ _ _=_;congr 1;have:=Lz l ByteArray.empty λs=>[X.str s];rw[<-this];rfl
def P5{c:C}{m:Md}{z:Nat}{xs:List (List X)}(h:c.er=.row m z xs):∃A len cap e,c=.row m z A len cap e/\len=xs.length/\∀i,i<len->xs[i]?=some ((List.range z).map λj=>(e i j).er):=by
 cases c with
 |row m' z' A len cap e=>simp only[C.er,X.row.injEq] at h;obtain⟨rfl,rfl,h⟩:=h;refine⟨A,len,cap,e,rfl,by rw[<-h];simp,λi hi=>?_⟩;rw[<-h];simp[hi]
 |_=>simp[C.er] at h
end M
namespace M
open Go
def oI(s:ag):X:=.str ⟨s.toArray⟩
def F2(l:List ag):X:=.row .own 1 (l.map eS)
def HJ:List X->Option X
 |[.str s,.str c]=>if c.data.toList=[32]/\s.size<=9223372036854775807 then some (oI (gi s.data.toList)) else none
 |_=>none
def CE:List X->Option X
 |[.str s,.str c]=>if s.size<4294967281/\1<=c.size then some (F2 (Lib.split s.data.toList c.data.toList)) else none
 |_=>none
def DP:List X->Option X
 |[.str s,.str c]=>if s.size<4294967281 then some (.ak [oI (Lib.cut s.data.toList c.data.toList).1,oI (Lib.cut s.data.toList c.data.toList).2.1,.bool (Lib.cut s.data.toList c.data.toList).2.2]) else none
 |_=>none
def EB:List X->Option X
 |[.str s,.str c]=>some (.bool (Lib.hasPrefix s.data.toList c.data.toList))
 |_=>none
def FJ:List X->Option X
 |[.str s]=>if s.size<=9223372036854775807 then some (match bx s.data.toList with
  |some n=>.ak [.int .i64 n,.bool true]
  |none=>.ak [.int .i64 0,.bool false]) else none
 |_=>none
def ry(f:aJ):ag:=f.name++[58,32]++f.value++[13,10]
def iZ(l:List aJ):ag:=l.flatMap ry
def rB:List (List X)->Option (List aJ)
 |[]=>some []
 |[.str a,.str b]::r=>(rB r).map λl=>⟨a.data.toList,b.data.toList⟩::l
 |_=>none
def Eb:List X->Option X
 |[.row .af 2 rows]=>(match rB rows with
  |some l=>if (iZ l).length<=140737488355328/\l.length<=140737488355328 then some (oI (iZ l)) else none
  |none=>none)
 |_=>none
def Qp:∀l:List aJ,rB (l.map aR)=some l
 |[]=>rfl
 |f::l=>by simp[rB,Qp l]
def strsOf:List (List X)->Option (List ag)
 |[]=>some []
 |[.str a]::r=>(strsOf r).map λl=>a.data.toList::l
 |_=>none
def TQ:∀l:List ag,strsOf (l.map eS)=some l
 |[]=>rfl
 |f::l=>by simp[strsOf,TQ l]
def Fw:List X->Option X
 |[.row .af 1 rows,.str sep]=>(match strsOf rows with
  |some l=>if (Lib.join l sep.data.toList).length<=140737488355328/\l.length<=140737488355328 then some (oI (Lib.join l sep.data.toList)) else none
  |none=>none)
 |_=>none
def count_nil(c:UInt8):Lib.count [] [c]=0:=by rw[Lib.count_one];rfl
def agy(c:UInt8):∀s:ag,Lib.split s [c]=bp c s:=by
 have key:∀(n:Nat) (s:ag),s.length<=n->Lib.splitK [c] 0 (Lib.count s [c]) s=bp c s:=by
  intro n;induction n with
  |zero=>intro s hs;obtain rfl:s=[]:=Iw.1 (by omega);rw[count_nil];rfl
  |succ n ih=>
   intro s hs;cases s with
   |nil=>rw[count_nil];rfl
   |cons b s=>
    simp at hs;have Fs:=ih s (by omega);by_cases hb:b=c;·subst hb;rw[Lib.count_cons_eq,oP];have hi:Lib.index (b::s) [b]=0:=Lib.index_first (i:=0) (oQ _) (by simp[Lib.occAt]) (λ_ h=>absurd h (Nat.not_lt_zero _));simp only[Lib.splitK,hi,bp];simp[Fs]
    ·rw[Lib.count_cons_ne _ _ _ hb]
     have hnext:Lib.index (b::s) [c]=if Lib.index s [c]=-1 then -1 else Lib.index s [c]+1:=by
      have h:=Lib.index_drop (s:=b::s) (sub:=[c]) (i:=1) (λj hj=>by
       obtain rfl:j=0:=by omega
       simp[Lib.occAt,List.isPrefixOf,vH hb]) (by simp)
      simp at h;exact h
     rw[bp,aC hb,<-Fs];cases hk:Lib.count s [c] with
     |zero=>simp[Lib.splitK]
     |succ k=>
      simp only[Lib.splitK,hnext];by_cases h1:Lib.index s [c]=-1;·simp[h1]
      ·have h0:0<=Lib.index s [c]:=by have:-1<=Lib.index s [c]:=Lib.index_ge _ _;omega
       have h2:¬Lib.index s [c]+1=-1:=by omega
       have h3:(Lib.index s [c]+1).toNat=(Lib.index s [c]).toNat+1:=by omega
       simp[h1,h2,h3]
 intro s;exact key s.length s (eC _)
def cE(c:UInt8):ag->Option (ag×ag)
 |[]=>none
 |b::s=>if b=c then some ([],s) else (cE c s).map λp=>(b::p.1,p.2)
def ade(b c:UInt8)(s:ag):Lib.index (b::s) [c]=if b=c then 0 else if Lib.index s [c]=-1 then -1 else Lib.index s [c]+1:=by
 by_cases hb:b=c;·subst hb;rw[au rfl];exact Lib.index_first (i:=0) (oQ _) (by simp[Lib.occAt]) (λ_ h=>absurd h (Nat.not_lt_zero _))
 ·rw[aC hb]
  have h:=Lib.index_drop (s:=b::s) (sub:=[c]) (i:=1) (λj hj=>by
   obtain rfl:j=0:=by omega
   simp[Lib.occAt,List.isPrefixOf,vH hb]) (by simp)
  simp at h;exact h
def DR(c:UInt8):∀s:ag,Lib.cut s [c]=match cE c s with
  |some p=>(p.1,p.2,true)
  |none=>(s,[],false)
 |[]=>rfl
 |b::s=>by
  have ih:=DR c s;have h0:-1<=Lib.index s [c]:=Lib.index_ge _ _;unfold Lib.cut at ih⊢;rw[ade,cE];by_cases hb:b=c;·simp[hb]
  ·simp only[hb,dQ];by_cases h1:Lib.index s [c]=-1
   ·rw[h1] at ih;simp only[h1];cases hc:cE c s with
    |none=>simp
    |some p=>rw[hc] at ih;simp at ih
   ·have h2:0<=Lib.index s [c]:=by omega
    rw[au h2] at ih;rw[aC h1,au (by omega)];have h3:(Lib.index s [c]+1).toNat=(Lib.index s [c]).toNat+1:=by omega
    cases hc:cE c s with
    |none=>rw[hc] at ih;simp at ih
    |some p=>rw[hc] at ih;simp at ih;simp[h3,<-ih.1,<-ih.2]
end M
namespace M
open Go
def ez{β:Type}(p:β->Bool)(l:List β):Nat:=(l.takeWhile λb=> !p b).length
def R8{β:Type}{f:ah->cv}(l:List β)(st:Nat->ah)(p:β->Bool)(E:Nat->ah){x:Nat}
  (h:∀i b,l[i]?=some b->i<l.length->f (st i)=if p b=true then some (.exit x,E i) else some (.normal,st (i+1)))
  (hend:f (st l.length)=some (.exit x,E l.length)):aI f (st 0)=some (.exit x,E (ez p l)):=by
 suffices H:∀(r:List β) (i:Nat),l.drop i=r->i<=l.length->aI f (st i)=some (.exit x,E (i+ez p r)) by have:=H l 0 rfl (oQ _);rwa [mC] at this
 intro r;induction r with
 |nil=>
  intro i hr hi;have:i=l.length:=by have:=dr List.length hr;simp at this;omega
  subst this;rw[cT,hend];rfl
 |cons b r ih=>
  intro i hr hi;have hb:l[i]?=some b:=by have:=dr (λt:List β=>t[0]?) hr;simpa using this
  have hlt:i<l.length:=(aL.1 hb).1;have hd:l.drop (i+1)=r:=by have:=dr List.tail hr;simpa using this
  rw[cT,h i b hb hlt];unfold ez;by_cases hp:p b=true;·simp[hp,fu]
  ·have:=ih (i+1) hd hlt;simp only[hp];have e:i+1+ez p r=i+(ez p r+1):=by omega
   rw[e] at this;simp[hp,fu,this,ez]
def HN{β:Type}(p:β->Bool)(l:List β):ez p l<=l.length:=by unfold ez;exact(List.takeWhile_sublist _).length_le
def Ui{β:Type}(p:β->Bool):∀(l:List β) (j:Nat) (b:β),j<ez p l->l[j]?=some b->p b=false
 |[],j,b,h,_=>by simp[ez] at h
 |a::l,j,b,h,hb=>by
  unfold ez at h;rw[U6] at h;by_cases hp:p a=true;·simp[hp] at h
  ·simp only[hp,NK,cY,cu] at h;cases j with
   |zero=>simp at hb;subst hb;simpa using hp
   |succ j=>exact Ui p l j b (by unfold ez;omega) (by simpa using hb)
def Uh{β:Type}(p:β->Bool):∀(l:List β) (b:β),l[ez p l]?=some b->p b=true
 |[],b,h=>by simp at h
 |a::l,b,h=>by
  unfold ez at h;rw[U6] at h;by_cases hp:p a=true;·simp[hp] at h;subst h;exact hp
  ·simp only[hp,NK,cY,cu,Iu] at h;exact Uh p l b h
def fW(c:UInt8)(f:ag->List ag)(s:ag)(i:Nat)(g:List ag×Nat)(b:Option UInt8):List ag×Nat:=match b with
 |some b=>if b=c then (g.1++f ((s.take i).drop g.2),i+1) else g
 |none=>(g.1++f ((s.take i).drop g.2),i+1)
def CD(c:UInt8):∀(cur rest:ag),(∀b∈cur,b≠c)->bp c (cur++rest)=match bp c rest with
  |w::ws=>(cur++w)::ws
  |[]=>[cur]
 |[],rest,_=>by
  cases h:bp c rest with
  |nil=>exact absurd h (yH c rest)
  |cons w ws=>simpa using h
 |a::cur,rest,h=>by rw[fR,bp,aC (h a (bq ..)),CD c cur rest λb hb=>h b (bO _ hb)];cases bp c rest<;>simp
def MJ(c:UInt8)(cur:ag)(h:∀b∈cur,b≠c):bp c cur=[cur]:=by have:=CD c cur [] h;simpa [bp] using this
def MP:∀(p cur rest:ag),((p++(cur++rest)).take (p.length+cur.length)).drop p.length=cur
 |[],cur,rest=>by simp
 |a::p,cur,rest=>by have:=MP p cur rest;simp only[cu,fR,show p.length+1+cur.length=p.length+cur.length+1 by omega,U8,List.drop_succ_cons];exact this
def Qs(c:UInt8)(f:ag->List ag)(s:ag):foldI (fW c f s) 0 (s.map some++[none]) ([],0)=((bp c s).flatMap f,s.length+1):=by
 suffices H:∀(rest p cur:ag) (out:List ag),s=p++cur++rest->(∀b∈cur,b≠c)->foldI (fW c f s) (p.length+cur.length) (rest.map some++[none]) (out,p.length)=(out++(bp c (cur++rest)).flatMap f,s.length+1) by have:=H s [] [] [] rfl (by simp);simpa using this
 intro rest;induction rest with
 |nil=>intro p cur out hs hc;simp only[mD] at hs⊢;rw[MJ c cur hc];subst hs;have e1:=MP p cur [];rw[mD] at e1;simp[foldI,fW,e1]
 |cons b rest ih=>
  intro p cur out hs hc;simp only[bn,fR,foldI];by_cases hb:b=c
  ·subst hb;have e1:(s.take (p.length+cur.length)).drop p.length=cur:=by subst hs;have:=MP p cur (b::rest);rwa [<-lH] at this
   have:=ih (p++cur++[b]) [] (out++f cur) (by simp[hs]) (by simp);simp only[e9,cu,iC,j7] at this;simp only[fW,cY,e1];rw[show p.length+cur.length+1=p.length+cur.length+(0+1)+0 by omega,this,CD b cur (b::rest) hc];simp[bp]
  ·have:=ih p (cur++[b]) out (by simp[hs]) (by
    intro x hx;rcases dO.1 hx with hx|hx;·exact hc x hx
    ·rw[fy.1 hx];exact hb)
   simp only[e9,cu,iC] at this;simp only[fW,hb,dQ];rw[show p.length+cur.length+1=p.length+(cur.length+(0+1)) by omega,this];simp
def Ux(s:ag):jm s=(bp 44 s).flatMap λw=>if gi w≠[] then [gi w] else []:=by
 unfold jm;induction bp 44 s with
 |nil=>rfl
 |cons w l ih=>simp only[bn,List.filter_cons,jF,<-ih];by_cases h:gi w=[]<;>simp[h]
@[simp] def alL(l:List UInt8):l.map (λb:UInt8=>[X.int IntKind.u8 (b.toNat:Int)])=l.map eU:=rfl
@[simp] def anT(l:List UInt8):qE (l.map eU)=some l:=M1 l
def MO(c:UInt8):∀s:ag,((bp c s).map List.length).sum+(bp c s).length=s.length+1
 |[]=>rfl
 |b::s=>by
  have:=MO c s;unfold bp;split;·simp;omega
  ·cases h:bp c s with
   |nil=>exact absurd h (yH c s)
   |cons w ws=>rw[h] at this;simp at this⊢;omega
def TK(c:UInt8)(s:ag):(bp c s).length<=s.length+1:=by have:=MO c s;omega
def oH(c:UInt8)(s:ag):∀w∈bp c s,w.length<=s.length:=by
 intro w hw;have h:=MO c s
 have h1:w.length+1<=((bp c s).map List.length).sum+(bp c s).length:=by
  clear h;revert hw;generalize bp c s=l;intro hw;induction l with
  |nil=>cases hw
  |cons x l ih=>
   rcases b9.1 hw with rfl|hw;·simp;omega
   ·have:=ih hw;simp;omega
 omega
def R9(b:UInt8)(h:65<=b.toNat/\b.toNat<=90):(b+32).toNat=b.toNat+32:=by rw[UInt8.toNat_add];have:(32:UInt8).toNat=32:=rfl;omega
def Uz{n:Int}(h1:0<=n)(h2:n<256):IntKind.u8.wrap n=n:=M8 h1 h2
end M
namespace M
def Eg{β γ:Type}(φ:β->List γ)(hφ:∀b,(φ b).length<=1)(l:List β)(i:Nat):((l.take i).flatMap φ).length<=i:=by
 induction l generalizing i with
 |nil=>simp
 |cons b l ih=>
  cases i with
  |zero=>simp
  |succ i=>have:=ih i;have:=hφ b;simp only[U8,jF,e9];omega
end M
namespace M
@[simp] def akP(i:Nat):((i:Int)<0)=False:=by simp
end M
namespace M
def jB{α:Type}(f:α->α)(l:List α)(i:Nat):List α:=(l.take i).map f++l.drop i
@[simp] def amK{α:Type}(f:α->α)(l:List α)(i:Nat):(jB f l i).length=l.length:=by simp[jB];omega
def ad3{α:Type}(f:α->α)(l:List α):jB f l 0=l:=by simp[jB]
def adZ{α:Type}(f:α->α)(l:List α):jB f l l.length=l.map f:=by simp[jB]
def ad0{α:Type}(f:α->α)(l:List α)(i:Nat)(h:i<l.length):(jB f l i)[i]?=some l[i]:=by
 unfold jB;rw[iB (by simp;omega)];have:i - ((l.take i).map f).length=0:=by simp;omega
 rw[this];simp[h]
def ad1{α:Type}(f:α->α)(l:List α)(i:Nat)(h:i<l.length)(h':i<(jB f l i).length):(jB f l i)[i]=l[i]:=by have:=ad0 f l i h;rw[cm h'] at this;exact iA this
def ad2{α:Type}(f:α->α)(l:List α)(i:Nat)(h:i<l.length):(jB f l i).set i (f l[i])=jB f l (i+1):=by
 unfold jB;rw[C5 _ _ (by simp;omega),qK h];have:i - ((l.take i).map f).length=0:=by simp;omega
 rw[this,oO h];simp only[C6,iS,bn,lF,lH,fR,j7]
end M
namespace M
@[simp] def ad5(m:Md):∀(i:Nat) (l:List (List X)),X.bV m (l.take i)=(X.bV m l).take i
 |0,l=>by simp[X.bV]
 |i+1,[]=>by simp[X.bV]
 |i+1,a::l=>by simp[X.bV,ad5 m i l]
@[simp] def ad4(m:Md):∀(i:Nat) (l:List (List X)),X.bV m (l.drop i)=(X.bV m l).drop i
 |0,l=>by simp
 |i+1,[]=>by simp[X.bV]
 |i+1,a::l=>by simp[X.bV,ad4 m i l]
end M
namespace M
open Go
abbrev dJ:ag:=[99,111,110,116,101,110,116,45,108,101,110,103,116,104]
abbrev xA:ag:=[99,97,99,104,101,45,99,111,110,116,114,111,108]
abbrev je:ag:=[118,97,114,121]
def ajC{α:Type}{w:α->Nat}{l:List α}{i:Nat}(h:i<l.length):w l[i]<=wL w l:=qF (cy h)
def yQ{l:List ag}{a:ag}(h:a∈l):a.length<=wL wS l:=qF (w:=wS) h
def HQ{l:List aJ}{a:aJ}(h:a∈l):a.name.length+a.value.length<=wL aO l:=qF (w:=aO) h
def fh(fs:List aJ)(n:ag):Option (Nat×aJ):=dH (λf=>decide (f.name=n)) 0 fs
def fU(o:Option (Nat×aJ)):Int:=o.elim (-1) λx=>(x.1:Int)
def dX(fs:List aJ)(n:ag):Option ag:=(fh fs n).map λx=>x.2.value
def IV{fs:List aJ}{n:ag}{i:Nat}{f:aJ}(h:fh fs n=some (i,f)):∃hi:i<fs.length,fs[i]=f/\f.name=n:=by obtain⟨_,h2,h3⟩:=wD h;simp at h2 h3;obtain⟨hi,e⟩:=aL.1 h2;exact⟨hi,e,h3⟩
def tY(fs:List aJ)(n:ag):((dX fs n).getD []).length<=wL aO fs:=by
 unfold dX;cases h:fh fs n with
 |none=>simp
 |some x=>obtain⟨i,f⟩:=x;obtain⟨hi,rfl,_⟩:=IV h;have:=HQ (cy hi);simp;omega
def js(fs:List aJ)(x:aJ×Nat):Bool:=en x.1.name && fP x.1.value && decide (fU (fh fs x.1.name)=x.2) && !decide (x.1.name=dJ)
def jO(fs:List aJ):Bool:=aX (js fs) fs.zipIdx && decide ((fs.length:Int)<=8)
def r9(fs:List aJ)(n v:ag):List aJ:=match fh fs n with
 |some x=>fs.set x.1 ⟨x.2.name,v⟩
 |none=>fs++[⟨n,v⟩]
def TU{α:Type}(w:α->Nat):∀(l:List α) (i:Nat) (a:α) (h:i<l.length),((l.set i a).map w).sum+w l[i]=(l.map w).sum+w a
 |b::l,0,a,_=>by simp;omega
 |b::l,i+1,a,h=>by have:=TU w l i a (by simpa using h);simp at this⊢;omega
def S3(fs:List aJ)(n v:ag):wL aO (r9 fs n v)<=wL aO fs+n.length+v.length+1:=by
 unfold r9;cases h:fh fs n with
 |none=>simp[wL,aO];omega
 |some x=>obtain⟨i,f⟩:=x;obtain⟨hi,rfl,h3⟩:=IV h;have:=TU aO fs i ⟨fs[i].name,v⟩ hi;simp only[wL,Iz];simp only[aO] at this⊢;omega
def afM(fs:List aJ)(n v:ag):(r9 fs n v).length<=fs.length+1:=by
 unfold r9;cases h:fh fs n with
 |none=>simp
 |some x=>simp
def fm(r:bP):Bool:=decide (100<=r.status/\r.status<=599) && jO r.fields && decide ((r.body.length:Int)<=120)
def xK(q:Rq):Bool:=decide (1<=q.method/\q.method<=4) && iw q.path && jO q.fields && decide ((q.body.length:Int)<=120)
def dn(fs:List aJ):List ag:=(jm ((dX fs je).getD [])).map cD
def ng(l:List ag):Bool:=aX en l && decide ((l.length:Int)<=4)
def dx(o:Ob):Bool:=fm o.resp && iw o.path && decide (0<=o.t/\o.t<=1000000) && ng o.names && decide (o.names=dn o.resp.fields) && decide (o.values.length=o.names.length) && aX fP o.values
def dF(b:Bn):Bool:=decide (0<=b.t/\b.t<=1000000) && (if b.kind=1\/b.kind=2 then iw b.a && decide (b.b=[]) else if b.kind=3 then en b.a && fP b.b else false)
def lU(b:Bn)(o:Ob):Bool:=decide (o.t<=b.t) && dF b && dx o && (if b.kind=1 then decide (o.path=b.a) else if b.kind=2 then b.a.isPrefixOf o.path else decide (dX o.resp.fields b.a=some b.b))
def fI(l:List Bn)(o:Ob):Bool:=l.any λb=>lU b o
def ni(w:Wr):Bool:=decide (0<=w.at_/\w.at_<=19)
def bJ(d:aQ):Bool:=aX ni d.pending && decide ((d.cells.length:Int)=20) && decide ((d.pending.length:Int)<=16)
def jY(l:List Kp)(i:Nat):Int:=if i=0 then 0 else (l[i - 1]?.map λk=>k.seq).getD 0
def pV(S:Int)(l:List Kp)(x:Kp×Nat):Bool:=dx x.1.obj && decide (5<=x.1.at_/\x.1.at_<=19) && aX (λy=>decide ¬y.at_=x.1.at_) (l.take x.2) && decide (jY l x.2<x.1.seq) && decide (x.1.seq<S)
def k8(S:Int)(l:List Kp)(x:Kp×Nat):Bool:=dx x.1.obj && decide (5<=x.1.at_/\x.1.at_<=19) && decide (1<=x.1.seq/\x.1.seq<=S - 1) && decide (x.2=0\/jY l x.2<x.1.seq) && aX (λy=>decide ¬y.at_=x.1.at_) (l.take x.2)
def p7(S:Int)(l:List Kp):Bool:=aX (pV S l) l.zipIdx
def BF(l:List Kp)(i:Nat)(h:i<l.length):jY l (i+1)=l[i].seq:=by simp[jY,h]
def adF(S:Int)(l:List Kp):aX (k8 S l) l.zipIdx=p7 S l:=by
 unfold p7;rw[NH,ff,ff];have hm:∀x∈l.zipIdx,∃h:x.2<l.length,x.1=l[x.2]:=λx hx=>by obtain⟨i,hi,rfl⟩:=vO hx;simp at hi;exact⟨by simpa using hi,by simp⟩
 have hz:∀i (h:i<l.length),(l[i],i)∈l.zipIdx:=λi h=>by
  have:(l.zipIdx)[i]'(by simpa using h)=(l[i],i):=by simp
  rw[<-this];exact cy _
 constructor
 ·intro h x hx;have h1:=h x hx;simp only[k8,pV,az,aY] at h1⊢;obtain⟨⟨⟨⟨a,b⟩,c⟩,d⟩,e⟩:=h1;refine⟨⟨⟨⟨a,b⟩,e⟩,?_⟩,by omega⟩;rcases d with d|d;·rw[d];have:jY l 0=0:=rfl;omega
  ·exact d
 ·intro h
  have pos:∀i (hi:i<l.length),1<=l[i].seq:=by
   intro i;induction i with
   |zero=>intro hi;have h1:=h _ (hz 0 hi);simp only[pV,az,aY] at h1;have:jY l 0=0:=rfl;omega
   |succ i ih=>intro hi;have h1:=h _ (hz (i+1) hi);simp only[pV,az,aY] at h1;have h2:=BF l i (by omega);have h3:=ih (by omega);omega
  intro x hx;have h1:=h x hx;obtain⟨hl,e⟩:=hm x hx;have h2:=pos x.2 hl;rw[<-e] at h2;simp only[k8,pV,az,aY] at h1⊢;obtain⟨⟨⟨⟨a,b⟩,c⟩,d⟩,f⟩:=h1;exact⟨⟨⟨⟨a,b⟩,by omega⟩,.inr d⟩,c⟩
def Qg{β:Type}(p:β->Bool):∀(l:List β) (k:Nat),(dH p k l).isSome= !aX (λb=> !p b) l
 |[],_=>rfl
 |b::l,k=>by
  unfold dH aX;by_cases h:p b=true;·simp[h]
  ·have:=Qg p l (k+1);unfold aX at this;simp[h,this]
def yP{l:List Kp}{k:Kp}(h:k∈l):b8 k.obj<=wL bK l:=qF (w:=bK) h
def HP{l:List Bn}{b:Bn}(h:b∈l):aT b<=wL aT l:=qF (w:=aT) h
def dB(s:Sh):Bool:=bJ s.aG && decide ((s.aD.length:Int)<=5) && decide (5<=s.next/\s.next<=19) && decide (1<=s.seq/\s.seq<=100000) && aX dF s.aD && p7 s.seq s.ai
end M
namespace M
open Go
def fX(_:Int)(k:Int):Int:=k
def eH(_:ag)(k:Int):ag:=Bq k
def Sg(_:Bool)(k:Int):Bool:=decide (k.tmod 3=0)
def bC{α:Type}(_:α):Nat:=1
def ei{α:Type}(mk:α->Int->α)(n:α->Nat):List α->Int->List α
 |[],_=>[]
 |a::l,k=>mk a k::ei mk n l (k+(n a:Nat))
def nL{α:Type}(n:α->Nat)(l:List α):Nat:=(l.map n).sum
@[simp] def aea{α:Type}(mk:α->Int->α)(n:α->Nat):∀(l:List α) (k:Int),(ei mk n l k).length=l.length
 |[],_=>rfl
 |a::l,k=>by simp[ei,aea mk n l]
def nX(a:aJ)(k:Int):aJ:=⟨eH a.name (k),eH a.value (k+1)⟩
def bu(a:aJ):Nat:=2
def aeg(a:Wr)(k:Int):Wr:=⟨fX a.at_ (k),eH a.text (k+1)⟩
def Py(a:Wr):Nat:=2
def aed(a:Kp)(k:Int):Kp:=⟨⟨eH a.obj.path (k),ei eH bC a.obj.names (k+1),ei eH bC a.obj.values (k+1+(nL bC a.obj.names:Nat)),⟨fX a.obj.resp.status (k+1+(nL bC a.obj.names:Nat)+(nL bC a.obj.values:Nat)),ei nX bu a.obj.resp.fields (k+1+(nL bC a.obj.names:Nat)+(nL bC a.obj.values:Nat)+1),eH a.obj.resp.body (k+1+(nL bC a.obj.names:Nat)+(nL bC a.obj.values:Nat)+1+(nL bu a.obj.resp.fields:Nat))⟩,fX a.obj.t (k+1+(nL bC a.obj.names:Nat)+(nL bC a.obj.values:Nat)+1+(nL bu a.obj.resp.fields:Nat)+1)⟩,fX a.at_ (k+1+(nL bC a.obj.names:Nat)+(nL bC a.obj.values:Nat)+1+(nL bu a.obj.resp.fields:Nat)+1+1),fX a.seq (k+1+(nL bC a.obj.names:Nat)+(nL bC a.obj.values:Nat)+1+(nL bu a.obj.resp.fields:Nat)+1+1+1)⟩
def Js(a:Kp):Nat:=6+nL bC a.obj.names+nL bC a.obj.values+nL bu a.obj.resp.fields
def aeb(a:Bn)(k:Int):Bn:=⟨fX a.kind (k),eH a.a (k+1),eH a.b (k+1+1),fX a.t (k+1+1+1)⟩
def Pw(a:Bn):Nat:=4
def aec(a:Fl)(k:Int):Fl:=⟨⟨fX a.q.method (k),eH a.q.path (k+1),ei nX bu a.q.fields (k+1+1),eH a.q.body (k+1+1+(nL bu a.q.fields:Nat))⟩,ei fX bC a.who (k+1+1+(nL bu a.q.fields:Nat)+1),⟨eH a.old.path (k+1+1+(nL bu a.q.fields:Nat)+1+(nL bC a.who:Nat)),ei eH bC a.old.names (k+1+1+(nL bu a.q.fields:Nat)+1+(nL bC a.who:Nat)+1),ei eH bC a.old.values (k+1+1+(nL bu a.q.fields:Nat)+1+(nL bC a.who:Nat)+1+(nL bC a.old.names:Nat)),⟨fX a.old.resp.status (k+1+1+(nL bu a.q.fields:Nat)+1+(nL bC a.who:Nat)+1+(nL bC a.old.names:Nat)+(nL bC a.old.values:Nat)),ei nX bu a.old.resp.fields (k+1+1+(nL bu a.q.fields:Nat)+1+(nL bC a.who:Nat)+1+(nL bC a.old.names:Nat)+(nL bC a.old.values:Nat)+1),eH a.old.resp.body (k+1+1+(nL bu a.q.fields:Nat)+1+(nL bC a.who:Nat)+1+(nL bC a.old.names:Nat)+(nL bC a.old.values:Nat)+1+(nL bu a.old.resp.fields:Nat))⟩,fX a.old.t (k+1+1+(nL bu a.q.fields:Nat)+1+(nL bC a.who:Nat)+1+(nL bC a.old.names:Nat)+(nL bC a.old.values:Nat)+1+(nL bu a.old.resp.fields:Nat)+1)⟩,Sg a.EA (k+1+1+(nL bu a.q.fields:Nat)+1+(nL bC a.who:Nat)+1+(nL bC a.old.names:Nat)+(nL bC a.old.values:Nat)+1+(nL bu a.old.resp.fields:Nat)+1+1)⟩
def Jr(a:Fl):Nat:=8+nL bu a.q.fields+nL bC a.who+nL bC a.old.names+nL bC a.old.values+nL bu a.old.resp.fields
def aef(a:Se)(k:Int):Se:=⟨⟨fX a.q.method (k),eH a.q.path (k+1),ei nX bu a.q.fields (k+1+1),eH a.q.body (k+1+1+(nL bu a.q.fields:Nat))⟩,⟨fX a.resp.status (k+1+1+(nL bu a.q.fields:Nat)+1),ei nX bu a.resp.fields (k+1+1+(nL bu a.q.fields:Nat)+1+1),eH a.resp.body (k+1+1+(nL bu a.q.fields:Nat)+1+1+(nL bu a.resp.fields:Nat))⟩,fX a.t (k+1+1+(nL bu a.q.fields:Nat)+1+1+(nL bu a.resp.fields:Nat)+1)⟩
def Px(a:Se):Nat:=6+nL bu a.q.fields+nL bu a.resp.fields
def aee(a:Rp)(k:Int):Rp:=⟨fX a.client (k),⟨fX a.q.method (k+1),eH a.q.path (k+1+1),ei nX bu a.q.fields (k+1+1+1),eH a.q.body (k+1+1+1+(nL bu a.q.fields:Nat))⟩,⟨fX a.resp.status (k+1+1+1+(nL bu a.q.fields:Nat)+1),ei nX bu a.resp.fields (k+1+1+1+(nL bu a.q.fields:Nat)+1+1),eH a.resp.body (k+1+1+1+(nL bu a.q.fields:Nat)+1+1+(nL bu a.resp.fields:Nat))⟩,fX a.kind (k+1+1+1+(nL bu a.q.fields:Nat)+1+1+(nL bu a.resp.fields:Nat)+1),fX a.t (k+1+1+1+(nL bu a.q.fields:Nat)+1+1+(nL bu a.resp.fields:Nat)+1+1),⟨eH a.obj.path (k+1+1+1+(nL bu a.q.fields:Nat)+1+1+(nL bu a.resp.fields:Nat)+1+1+1),ei eH bC a.obj.names (k+1+1+1+(nL bu a.q.fields:Nat)+1+1+(nL bu a.resp.fields:Nat)+1+1+1+1),ei eH bC a.obj.values (k+1+1+1+(nL bu a.q.fields:Nat)+1+1+(nL bu a.resp.fields:Nat)+1+1+1+1+(nL bC a.obj.names:Nat)),⟨fX a.obj.resp.status (k+1+1+1+(nL bu a.q.fields:Nat)+1+1+(nL bu a.resp.fields:Nat)+1+1+1+1+(nL bC a.obj.names:Nat)+(nL bC a.obj.values:Nat)),ei nX bu a.obj.resp.fields (k+1+1+1+(nL bu a.q.fields:Nat)+1+1+(nL bu a.resp.fields:Nat)+1+1+1+1+(nL bC a.obj.names:Nat)+(nL bC a.obj.values:Nat)+1),eH a.obj.resp.body (k+1+1+1+(nL bu a.q.fields:Nat)+1+1+(nL bu a.resp.fields:Nat)+1+1+1+1+(nL bC a.obj.names:Nat)+(nL bC a.obj.values:Nat)+1+(nL bu a.obj.resp.fields:Nat))⟩,fX a.obj.t (k+1+1+1+(nL bu a.q.fields:Nat)+1+1+(nL bu a.resp.fields:Nat)+1+1+1+1+(nL bC a.obj.names:Nat)+(nL bC a.obj.values:Nat)+1+(nL bu a.obj.resp.fields:Nat)+1)⟩,fX a.aD (k+1+1+1+(nL bu a.q.fields:Nat)+1+1+(nL bu a.resp.fields:Nat)+1+1+1+1+(nL bC a.obj.names:Nat)+(nL bC a.obj.values:Nat)+1+(nL bu a.obj.resp.fields:Nat)+1+1)⟩
def YG(a:Rp):Nat:=13+nL bu a.q.fields+nL bu a.resp.fields+nL bC a.obj.names+nL bC a.obj.values+nL bu a.obj.resp.fields
def CN(a:Rq)(k:Int):Rq:=⟨a.method,a.path,ei nX bu a.fields (k),a.body⟩
@[simp] def anM(a:Rq)(k:Int):(CN a k).method=a.method:=rfl
@[simp] def anN(a:Rq)(k:Int):(CN a k).path=a.path:=rfl
@[simp] def anL(a:Rq)(k:Int):(CN a k).body=a.body:=rfl
def MU(a:Rq):Nat:=nL bu a.fields
def yJ(a:bP)(k:Int):bP:=⟨a.status,ei nX bu a.fields (k),a.body⟩
@[simp] def anP(a:bP)(k:Int):(yJ a k).status=a.status:=rfl
@[simp] def anO(a:bP)(k:Int):(yJ a k).body=a.body:=rfl
def agQ(a:bP):Nat:=nL bu a.fields
def MS(a:Ob)(k:Int):Ob:=⟨a.path,ei eH bC a.names (k),ei eH bC a.values (k+(nL bC a.names:Nat)),yJ a.resp (k+(nL bC a.names:Nat)+(nL bC a.values:Nat)),a.t⟩
@[simp] def anI(a:Ob)(k:Int):(MS a k).path=a.path:=rfl
@[simp] def anJ(a:Ob)(k:Int):(MS a k).resp=yJ a.resp (k+(nL bC a.names:Nat)+(nL bC a.values:Nat)):=rfl
@[simp] def anK(a:Ob)(k:Int):(MS a k).t=a.t:=rfl
def T7(a:aQ)(k:Int):aQ:=⟨ei eH bC a.cells (k),ei aeg Py a.pending (k+(nL bC a.cells:Nat))⟩
def MT(a:aQ):Nat:=nL bC a.cells+nL Py a.pending
def CO(a:Sh)(k:Int):Sh:=⟨T7 a.aG (k),ei aed Js a.ai (k+(MT a.aG:Nat)),ei aeb Pw a.aD (k+(MT a.aG:Nat)+(nL Js a.ai:Nat)),a.next,a.seq⟩
@[simp] def anQ(a:Sh)(k:Int):(CO a k).aG=T7 a.aG (k):=rfl
@[simp] def anR(a:Sh)(k:Int):(CO a k).next=a.next:=rfl
@[simp] def anS(a:Sh)(k:Int):(CO a k).seq=a.seq:=rfl
def MW(a:Sh):Nat:=MT a.aG+nL Js a.ai+nL Pw a.aD
def T6(a:Ca)(k:Int):Ca:=⟨CO a.jk (k),ei aec Jr a.mL (k+(MW a.jk:Nat)),a.now,ei aef Px a.seen (k+(MW a.jk:Nat)+(nL Jr a.mL:Nat)),ei aee YG a.sent (k+(MW a.jk:Nat)+(nL Jr a.mL:Nat)+(nL Px a.seen:Nat))⟩
@[simp] def anB(a:Ca)(k:Int):(T6 a k).jk=CO a.jk (k):=rfl
@[simp] def anA(a:Ca)(k:Int):(T6 a k).now=a.now:=rfl
def yI(a:De)(k:Int):De:=⟨a.kind,a.client,CN a.q (k),a.a,yJ a.resp (k+(MU a.q:Nat)),a.qT,ei Sg bC a.keep (k+(MU a.q:Nat)+(agQ a.resp:Nat))⟩
@[simp] def anF(a:De)(k:Int):(yI a k).kind=a.kind:=rfl
@[simp] def anE(a:De)(k:Int):(yI a k).client=a.client:=rfl
@[simp] def anG(a:De)(k:Int):(yI a k).q=CN a.q (k):=rfl
@[simp] def anC(a:De)(k:Int):(yI a k).a=a.a:=rfl
@[simp] def anH(a:De)(k:Int):(yI a k).resp=yJ a.resp (k+(MU a.q:Nat)):=rfl
@[simp] def anD(a:De)(k:Int):(yI a k).qT=a.qT:=rfl
end M
namespace M
open Go Go.RowKit
def nH.cell[B:Bs]{w:World}(h:nH w){b k:Nat}{v:Value}(hc:B.W0.cell? ⟨b,k,none⟩=some v):w.cell? ⟨b,k,none⟩=some v:=by
 have hb:b<B.W0.heap.size:=by
  rcases gI b B.W0.heap.size with h|h;·exact h
  ·simp[World.cell?,kP h] at hc
 have e:=h b hb;simpa [World.cell?,e] using hc
def Xn(w:World):Below w.heap.size w w.drew:=(Below.refl _ _).drew
def Xo(w:World):∀n,Below w.heap.size w (w.drewN n):=λn=>⟨rfl,rfl,rfl,eC _,λ_ _=>rfl⟩
def HK{cs:List C}{s c:ByteArray}(h:cs.map C.er=[.str s,.str c]):cs=[.str s,.str c]:=by obtain⟨a,r,rfl,h1,h2⟩:=map_cons h;obtain⟨b,r',rfl,h3,h4⟩:=map_cons h2;obtain rfl:=map_nil h4;rw[tU h1,tU h3]
def aeY{cs:List C}{s:ByteArray}(h:cs.map C.er=[.str s]):cs=[.str s]:=by obtain⟨a,r,rfl,h1,h2⟩:=map_cons h;obtain rfl:=map_nil h2;rw[tU h1]
def ajs[Bs]{P:Program}{f0:FuncId}(hc:∀(s:ByteArray) (c:UInt8),c.toNat<128->∀w,s.size<=9223372036854775807->
  Calls P f0 #[.string s,.string ⟨#[c]⟩] w λe w'=>e=.returned (.string ⟨(Lib.trimB s.data.toList c).toArray⟩)/\(w'=w\/w'=w.drew)):(eP f0 HJ).Sound P:=
 uE λxs r hg w zl zb cs hx hA hs=>by
  unfold HJ at hg;split at hg
  ·rename_i s c;split at hg
   ·rename_i hh;cases hg;obtain rfl:=HK hx;have e:c=⟨#[32]⟩:=by have:=dr List.toArray hh.1;simp at this;cases c;simp at this;rw[this]
    subst e;refine(hc s 32 (by decide) w hh.2).mono λe w' ⟨he,hw⟩=>⟨.str ⟨(gi s.data.toList).toArray⟩,he,rfl,?_,tX ?_⟩
    ·rcases hw with rfl|rfl;·exact Below.refl _ _
     ·exact Xn _
    ·have:=Ub s.data.toList;have h2:=hh.2;simp only[ByteArray.size] at h2⊢;simp at this⊢;omega
   ·cases hg
  ·cases hg
def agu[B:Bs]{P:Program}{f0:FuncId}{g1:Nat}{t9:TypeId}(hm:∃m,B.W0.cell? ⟨g1,0,none⟩=some (.int .i64 m))(hc:∀(s sep:ByteArray) (m:Int) (w:World),s.size<4294967281->w.cell? ⟨g1,0,none⟩=some (.int .i64 m)->1<=sep.size->
  Calls P f0 #[.string s,.string sep] w λe w'=>e=.returned (.slice (some ⟨w.heap.size,0,none⟩) (Lib.countB s sep+1) (Lib.countB s sep+1))/\w'=w.alloc (.cells ((Lib.splitB sep 0 (Lib.countB s sep) s).map Value.string).toArray t9)):(eP f0 CE).Sound P:=
 uE λxs r hg w zl zb cs hx hA hs=>by
  unfold CE at hg;split at hg
  ·rename_i s c;split at hg
   ·rename_i hh;cases hg;obtain rfl:=HK hx;obtain⟨m,hm⟩:=hm;have hlen:=Lib.splitB_all c hh.2 0 _ s rfl;have Q8:=Lib.splitB_data c 0 (Lib.countB s c) s;refine(hc s c m w hh.1 (hs.cell hm) hh.2).mono λe w' ⟨he,hw⟩=>?_;subst hw;refine⟨.row .own 1 (some (w.heap.size,0,none)) (Lib.splitB c 0 (Lib.countB s c) s).length (Lib.splitB c 0 (Lib.countB s c) s).length λi _=>.str ((Lib.splitB c 0 (Lib.countB s c) s).getD i ByteArray.empty),?_,?_,?_,?_⟩;·rw[he,hlen];rfl
    ·rw[af0];unfold F2;congr 1;have:Lib.split s.data.toList c.data.toList=(Lib.splitB c 0 (Lib.countB s c) s).map (·.data.toList):=Q8.symm;rw[this,cH];refine b7 λx _=>?_;simp
    ·exact(Below.refl _ _).alloc (eC _) _
    ·refine abM (eC _) (t:=t9) ?_ λx hx=>?_;·show (w.heap.push _)[w.heap.size]?=_;simp
     ·have h1:x.data.toList∈Lib.splitK c.data.toList 0 (Lib.countB s c) s.data.toList:=by rw[<-Q8];exact j6 hx
      have h2:∀(k:Nat) (l:List UInt8),∀y∈Lib.splitK c.data.toList 0 k l,y.length<=l.length:=by
       intro k;induction k with
       |zero=>intro l y hy;simp[Lib.splitK] at hy;rw[hy];exact eC _
       |succ k ih=>
        intro l y hy;unfold Lib.splitK at hy;split at hy;·rw[fy.1 hy];exact eC _
        ·rcases b9.1 hy with rfl|hy;·simp;omega
         ·have:=ih _ _ hy;simp at this;omega
      have h3:=h2 _ _ _ h1;have h4:=hh.1;have e1:s.size=s.data.toList.length:=Lib.size_eq _;have e2:x.size=x.data.toList.length:=Lib.size_eq _;omega
   ·cases hg
  ·cases hg
def DQ(s c:ag):(Lib.cut s c).1.length<=s.length/\(Lib.cut s c).2.1.length<=s.length:=by
 unfold Lib.cut;split;·simp;omega
 ·simp
def YN[B:Bs]{P:Program}{f0:FuncId}{g1:Nat}(hm:∃m,B.W0.cell? ⟨g1,0,none⟩=some (.int .i64 m))(hc:∀(s sep:ByteArray) (m:Int) (w:World),s.size<4294967281->w.cell? ⟨g1,0,none⟩=some (.int .i64 m)->
  Calls P f0 #[.string s,.string sep] w λe w'=>e=.returned (.tuple #[.string ⟨(Lib.cut s.data.toList sep.data.toList).1.toArray⟩,.string ⟨(Lib.cut s.data.toList sep.data.toList).2.1.toArray⟩,.bool (Lib.cut s.data.toList sep.data.toList).2.2])/\∃n,w'=w.drewN n):(eP f0 DP).Sound P:=
 uE λxs r hg w zl zb cs hx hA hs=>by
  unfold DP at hg;split at hg
  ·rename_i s c;split at hg
   ·rename_i hh;cases hg;obtain rfl:=HK hx;obtain⟨m,hm⟩:=hm;have hl:=DQ s.data.toList c.data.toList;refine(hc s c m w hh (hs.cell hm)).mono λe w' ⟨he,n,hw⟩=>?_;subst hw;refine⟨CP [.str ⟨(Lib.cut s.data.toList c.data.toList).1.toArray⟩,.str ⟨(Lib.cut s.data.toList c.data.toList).2.1.toArray⟩,.bool (Lib.cut s.data.toList c.data.toList).2.2],?_,?_,Xo _ n,Qv λx hx=>?_⟩;·rw[he,Ue];rfl
    ·rw[Ud];rfl
    ·have hz:s.data.toList.length<=4294967281:=by have e1:s.size=s.data.toList.length:=Lib.size_eq _;omega
     simp only[b9,Nv,or_false] at hx;rcases hx with rfl|rfl|rfl;·exact⟨tX (by simp only[ByteArray.size,oM];omega),trivial,λ_ _ h=>h⟩
     ·exact⟨tX (by simp only[ByteArray.size,oM];omega),trivial,λ_ _ h=>h⟩
     ·exact⟨JT,trivial,λ_ _ h=>h⟩
   ·cases hg
  ·cases hg
def aey[B:Bs]{P:Program}{f0:FuncId}(hc:∀(s:ByteArray) (w:World),nH w->s.size<=9223372036854775807->
  Calls P f0 #[.string s] w λe w'=>e=.returned (.tuple #[.int .i64 (((bx s.data.toList).getD 0:Nat):Int),.bool (bx s.data.toList).isSome])/\Below w.heap.size w w'):(eP f0 FJ).Sound P:=
 uE λxs r hg w zl zb cs hx hA hs=>by
  unfold FJ at hg;split at hg
  ·rename_i s;split at hg
   ·rename_i hh;cases hg;obtain rfl:=aeY hx;refine(hc s w hs hh).mono λe w' ⟨he,hw⟩=>?_;refine⟨CP [.int .i64 (((bx s.data.toList).getD 0:Nat):Int),.bool (bx s.data.toList).isSome],?_,?_,hw,Qv λx hx=>?_⟩;·rw[he,Ue];rfl
    ·rw[Ud];cases bx s.data.toList<;>rfl
    ·simp only[b9,Nv,or_false] at hx;rcases hx with rfl|rfl;·exact⟨abL,trivial,λ_ _ h=>h⟩
     ·exact⟨JT,trivial,λ_ _ h=>h⟩
   ·cases hg
  ·cases hg
def adk[B:Bs]{P:Program}{f0:FuncId}(htab:Lib.TabIs P B.W0 "internal/strconv.uint64pow10" .u64 Lib.pow10Tab) (hc:∀(n:Int),-9223372036854775808<=n->n<=9223372036854775807->∀w,Lib.TabIs P w "internal/strconv.uint64pow10" .u64 Lib.pow10Tab->
  Calls P f0 #[.int .i64 n] w λe w'=>e=.returned (.string ⟨(Lib.itoa n).toArray⟩)/\∃k os,w'=Sort.grow (w.drewN k) os):(jC f0 Ba).Sound P:=
 abU λxs r h w hw=>by
  unfold Ba at h;split at h
  ·rename_i n;split at h;·rename_i Q6;cases h;exact hc n Q6.1 Q6.2 w (TabIs.same htab hw)
   ·cases h
  ·cases h
end M
namespace Go.Proofs
open Go.RowKit
def agK{P:Program}{w w':World}{n:String}{k:IntKind}{zs:List Int}(h:Lib.TabIs P w n k zs)(hw:Below w.heap.size w w'):Lib.TabIs P w' n k zs:=by
 unfold Lib.TabIs World.var? at h⊢;cases hg:P.globalNamed n with
 |none=>rw[hg] at h;cases h
 |some g=>
  rw[hg] at h;simp only[gj] at h⊢
  have hlt:g<w.heap.size:=by
   rcases gI g w.heap.size with h'|h';·exact h'
   ·rw[kP h'] at h;cases h
  rw[hw.block g hlt];exact h
def Um[B:M.Bs]{P:Program}{w:World}{n:String}{cs:Array Value}(h:B.W0.var? P n=some cs)(hw:M.nH w):w.var? P n=some cs:=by
 unfold World.var? at h⊢;cases hg:P.globalNamed n with
 |none=>rw[hg] at h;cases h
 |some g=>
  rw[hg] at h;simp only[gj] at h⊢
  have hlt:g<B.W0.heap.size:=by
   rcases gI g B.W0.heap.size with h'|h';·exact h'
   ·rw[kP h'] at h;cases h
  rw[hw g hlt];exact h
def abV(w:World)(k:Nat)(os:Array Obj):Below w.heap.size w (Sort.grow (w.drewN k) os):=
 ⟨rfl,rfl,rfl,by simp[Sort.grow,World.drewN],λb hb=>by show (w.heap++os)[b]?=w.heap[b]?;exact NO hb⟩
def n8(v:Int)(l:List UInt8):Bool:=decide (0<=v/\v<=1000000/\Lib.itoa v=l)
def xB(v:Int)(l:List UInt8):Int:=if n8 v l=true then v else 0
def aew{P:Program}{f a:FuncId}{s:ByteArray}{w:World}(hmax:s.size<=9223372036854775807)
  (acE:7<s.size->Calls P f #[.string s] w λe w'=>e=.returned (.tuple #[.int .i64 0,.bool false])/\w'=w)
  (hok:¬7<s.size->∀v,Lib.atoiAll s.data.toList=.ok v->Calls P f #[.string s] w λe w'=>e=.returned (.tuple #[.int .i64 (xB v s.data.toList),.bool (n8 v s.data.toList)])/\Below w.heap.size w w')
  (acf:¬7<s.size->(∀v,Lib.atoiAll s.data.toList≠.ok v)->Calls P f #[.string s] w λe w'=>e=.returned (.tuple #[.int .i64 0,.bool false])/\Below w.heap.size w w'):
  Calls P f #[.string s] w λe w'=>e=.returned (.tuple #[.int .i64 (((M.bx s.data.toList).getD 0:Nat):Int),.bool (M.bx s.data.toList).isSome])/\Below w.heap.size w w':=by
 have hl:s.size=s.data.toList.length:=Lib.size_eq _;by_cases h:7<s.size;·rw[M.Su _ (by omega)];exact(acE h).mono λe w' ⟨he,hw⟩=>⟨he,hw▸Below.refl _ _⟩
 by_cases hv:∃v,Lib.atoiAll s.data.toList=.ok v
 ·obtain⟨v,hv⟩:=hv;rw[<-M.aez _ _ hv];refine(hok h v hv).mono λe w' ⟨he,hw⟩=>⟨?_,hw⟩;rw[he];by_cases hb:n8 v s.data.toList=true;·have hb':=hb;unfold n8 at hb';rw[aY] at hb';rw[xB,au hb,hb,au hb'];simp;omega
  ·have hb':=hb;unfold n8 at hb';rw[aY] at hb';rw[xB,aC hb,aC hb'];simp[hb]
 ·have ey:∀v,Lib.atoiAll s.data.toList≠.ok v:=λv e=>hv ⟨v,e⟩;rw[M.aeB _ ey];exact acf h ey
def anp{H:Type}{enc:TypeId×Value->H}{a:Assume}{C:Checked}{os:Os}{f:FuncId}{fn:Func}{s:ChangeSpec}{conds:List PathCond}{apart fresh handsOn again:Bool}{X:World->Array Value->Prop}
  (hX:∀(w w':World) (args:Array Value),w.heap=w'.heap->X w args->X w' args)
  (own:ownKnob C.prog.godebug=none)(started:os.Started)(noInit:C.prog.inits.idxOf? f=none)(hfn:C.prog.funcs[f]?=some fn)
  (witness:∃(w:World) (tape:Tape) (i:Input),w.os=os/\(w.forCall tape i).Shaped C.prog/\i.vars=[]/\Input.okWide C.prog (w.forCall tape i) .any w.heap.size f i/\
   ((s.pre enc C.prog fn conds apart (w.forCall tape i).memory i.args/\X (w.forCall tape i).memory i.args)/\sizedMet enc C.prog fn (OpenSpec.ofChange s) apart (w.forCall tape i).memory i.args)/\a.holds C.prog (lone (Frame.enter C.prog f i.args .normal) [] (w.forCall tape i)))
  (contract:∀(W:World) (base:Nat) (args:Array Value) (ds gs:List (DataW H)) (before:List MemPlace),
   (∀(j:Nat) t v,fn.params[j]?=some t->args[j]?=some v->Value.okWide C.prog W .any base t v)->
   DataW.Whole enc C.prog fn.params.toList s.vars apart W args.toList ds gs before->
   conds.all (PathCond.test C.prog ⟨fn.params.toList,ds,s.plain.varTypes C.prog,gs⟩)=true->
   (DataW.weightsEach C.prog (fn.params.toList++s.plain.varTypes C.prog) (ds++gs)).all (· <=reachBytes)=true->X W args->
   W.ShapedOpen C.prog->
   a.holds C.prog (lone (Frame.enter C.prog f args .normal) [] W)->
   Calls C.prog f args W λe W'=>∃v,e=.returned v/\s.post enc C.prog fn apart fresh handsOn again W args v W'):
  ReturnsInHanded a C os f .any (λw args=>(s.pre enc C.prog fn conds apart w args/\X w args)/\sizedMet enc C.prog fn (OpenSpec.ofChange s) apart w args) (s.post enc C.prog fn apart fresh handsOn again):=by refine returnsInHanded_of_calls own started noInit witness ?_;intro w tape i _ hsh _ hok hpre hholds;obtain⟨_,_,_,fn',acv,_,_,_,_,hval⟩:=hok;have e:fn'=fn:=iA (acv.symm.trans hfn);subst e;obtain⟨⟨⟨ds,gs,before,hw,hc⟩,hx⟩,hz⟩:=hpre;have hw':=DataW.Whole.of_heap (w':=w.forCall tape i) (by rfl) hw;refine(contract (w.forCall tape i) w.heap.size i.args ds gs before hval hw' hc (hz.weights hw) (hX _ _ _ (by rfl) hx) hsh hholds).mono λe W' ⟨v,he,hp⟩=>?_;subst he;exact ChangeSpec.post_blind hp
end Go.Proofs
namespace M
open Go Go.RowKit
end M
namespace M
open Go Go.RowKit
def agF:∀{rows:List (List X)} {l:List ag},strsOf rows=some l->rows=l.map λs=>[X.str ⟨s.toArray⟩]:=by
 intro rows;induction rows with
 |nil=>intro l h;simp[strsOf] at h;subst h;rfl
 |cons r rows ih=>
  intro l h;match r,h with
  |[.str a],h=>
   simp only[strsOf] at h;cases hs:strsOf rows with
   |none=>rw[hs] at h;simp at h
   |some l'=>rw[hs] at h;simp at h;subst h;rw[ih hs];simp
def adl[B:Bs]{P:Program}{f0:FuncId}
  (hc0:∀(a:Option Addr) (c:Nat) (sep:ByteArray) (w:World),Calls P f0 #[.slice a 0 c,.string sep] w λe w'=>e=.returned (.string ⟨#[]⟩)/\w'=w)
  (hc:∀(bk o c:Nat) (xs:List ByteArray) (sep:ByteArray) (w:World),(∀(j:Nat) x,xs[j]?=some x->w.cell? ⟨bk,o+j,none⟩=some (.string x))->bk<w.heap.size->xs.length<=140737488355328->xs.length<=c->(Lib.join (xs.map (·.data.toList)) sep.data.toList).length<=140737488355328->
   Calls P f0 #[.slice (some ⟨bk,o,none⟩) xs.length c,.string sep] w λe w'=>e=.returned (.string ⟨(Lib.join (xs.map (·.data.toList)) sep.data.toList).toArray⟩)/\Below w.heap.size w w'):(eP f0 Fw).Sound P:=
 uE λxs r hg w zl zb cs hx hA hs=>by
  unfold Fw at hg;split at hg
  ·rename_i rows sep;split at hg
   ·rename_i l hl;split at hg
    ·rename_i hh;cases hg;obtain⟨c1,r1,rfl,h1,h2⟩:=map_cons hx;obtain⟨c2,r2,rfl,h3,h4⟩:=map_cons h2;obtain rfl:=map_nil h4;obtain rfl:=tU h3;obtain⟨A,len,cap,e,rfl,hlen,hrow⟩:=P5 h1;have hrows:=agF hl;have nP:len=l.length:=by rw[hlen,hrows];simp
     have ok:=hA.ok _ (bq ..);obtain⟨k1,k2,k3,k4,k5⟩:=ok;have fin:∀(s:ag),s.length<=140737488355328->oV w w (.str ⟨s.toArray⟩):=λs h=>tX (by simp only[ByteArray.size,oM];omega);rcases NA len with h0|hp;·subst h0;have hl0:l=[]:=Iw.1 nP.symm;subst hl0;refine(hc0 _ cap sep w).mono λe w' ⟨he,hw⟩=>?_;subst hw;exact⟨.str ⟨#[]⟩,he,by simp[C.er,oI,Lib.join],Below.refl _ _,tX (by simp[ByteArray.size])⟩
     ·obtain⟨g,o,jR,ach,_⟩:=k2 0 0 hp (by omega);subst jR
      have hcell:∀(j:Nat) x,(l.map λs=>(⟨s.toArray⟩:ByteArray))[j]?=some x->w.cell? ⟨g,o+j,none⟩=some (.string x):=by
       intro j x hj;have hj2:j<l.length:=by have:=aL.1 hj;simpa using this.1
       obtain⟨g',o',Ev,iH,_⟩:=k2 j 0 (by omega) (by omega);cases Ev;have hr:=hrow j (by omega);rw[hrows] at hr
       have jT:(e j 0).er=.str x:=by
        rw[cR] at hr hj;cases hlj:l[j]? with
        |none=>rw[hlj] at hj;simp at hj
        |some s=>rw[hlj] at hr hj;simp at hr hj;rw[<-hr,hj]
       rw[tU jT] at iH;simpa [C.val] using iH
      have hbk:g<w.heap.size:=by
       rcases gI g w.heap.size with h|h;·exact h
       ·simp[World.cell?,kP h] at ach
      have hmap:(l.map λs=>(⟨s.toArray⟩:ByteArray)).map (·.data.toList)=l:=by simp[Im]
      have key:=hc g o cap (l.map λs=>⟨s.toArray⟩) sep w hcell hbk (by simpa using hh.2) (by simp;omega) (by rw[hmap];exact hh.1);rw[hmap] at key;simp only[cZ,<-nP] at key;refine Calls.mono key λe w' ⟨he,hb⟩=>?_;exact⟨.str ⟨(Lib.join l sep.data.toList).toArray⟩,he,rfl,hb,tX (by have:=hh.1;simp only[ByteArray.size,oM];omega)⟩
    ·cases hg
   ·cases hg
  ·cases hg
def acd[B:Bs]{P:Program}{f0:FuncId}(hc:∀(s p:ByteArray) (w:World),
  Calls P f0 #[.string s,.string p] w λe w'=>e=.returned (.bool (Lib.hasPrefix s.data.toList p.data.toList))/\w'=w):(eP f0 EB).Sound P:=
 uE λxs r hg w zl zb cs hx hA hs=>by
  unfold EB at hg;split at hg;·rename_i s c;cases hg;obtain rfl:=HK hx;refine(hc s c w).mono λe w' ⟨he,hw⟩=>?_;subst hw;exact⟨.bool (Lib.hasPrefix s.data.toList c.data.toList),he,rfl,Below.refl _ _,JT⟩
  ·cases hg
end M
namespace M
open Go Go.RowKit
def jt(l:List (ByteArray×ByteArray)):List UInt8:=l.flatMap λf=>f.1.data.toList++[58,32]++f.2.data.toList++[13,10]
def Qy{l:List (ByteArray×ByteArray)}{k:Nat}(h:k<l.length):jt (l.take (k+1))=jt (l.take k)++(l[k].1.data.toList++[58,32]++l[k].2.data.toList++[13,10]):=by unfold jt;rw[oO h,NR];simp only[jF,NS,mD]
def abP{l:List (ByteArray×ByteArray)}{k:Nat}(h:k<l.length):(jt (l.take k)).length+l[k].1.size+2+l[k].2.size+2<=(jt l).length:=by
 have e:jt l=jt (l.take (k+1))++jt (l.drop (k+1)):=by unfold jt;rw[<-NR,U7]
 rw[e,Qy h];simp only[e9,cu,iC];have h1:l[k].1.data.toList.length=l[k].1.size:=by rw[C0];rfl
 have h2:l[k].2.data.toList.length=l[k].2.size:=by rw[C0];rfl
 omega
def Ei(f:aJ):ByteArray×ByteArray:=(⟨f.name.toArray⟩,⟨f.value.toArray⟩)
def Qx(l:List aJ):jt (l.map Ei)=iZ l:=by unfold jt iZ;rw[List.flatMap_map];rfl
def Y6:∀{rows:List (List X)} {l:List aJ},rB rows=some l->rows=l.map aR:=by
 intro rows;induction rows with
 |nil=>intro l h;simp[rB] at h;subst h;rfl
 |cons r rows ih=>
  intro l h;match r,h with
  |[.str a,.str b],h=>
   simp only[rB] at h;cases hs:rB rows with
   |none=>rw[hs] at h;simp at h
   |some l'=>rw[hs] at h;simp at h;subst h;rw[ih hs];simp
def Y2[B:Bs]{P:Program}{f0:FuncId}
  (hc:∀(A:Option Addr) (cap:Nat) (fs:List (ByteArray×ByteArray)) (w:World),
   (∀i f,fs[i]?=some f->∃g o,A=some ⟨g,o,none⟩/\g<w.heap.size/\w.cell? ⟨g,o+i*2,none⟩=some (.string f.1)/\w.cell? ⟨g,o+i*2+1,none⟩=some (.string f.2))->
   (jt fs).length<=140737488355328->fs.length<=140737488355328->
   Calls P f0 #[.slice A fs.length cap] w λe w'=>e=.returned (.string ⟨(jt fs).toArray⟩)/\Below w.heap.size w w'):(eP f0 Eb).Sound P:=
 uE λxs r hg w zl zb cs hx hA hs=>by
  unfold Eb at hg;split at hg
  ·rename_i rows;split at hg
   ·rename_i l hl;split at hg
    ·rename_i hh;cases hg;obtain⟨c1,r1,rfl,h1,h2⟩:=map_cons hx;obtain rfl:=map_nil h2;obtain⟨A,len,cap,e,rfl,hlen,hrow⟩:=P5 h1;have hrows:=Y6 hl;have nP:len=l.length:=by rw[hlen,hrows];simp
     have ok:=hA.ok _ (bq ..);obtain⟨k1,k2,k3,k4,k5⟩:=ok
     have hcell:∀i f,(l.map Ei)[i]?=some f->∃g o,(A.map λq=>(⟨q.1,q.2.1,q.2.2⟩:Addr))=some ⟨g,o,none⟩/\g<w.heap.size/\w.cell? ⟨g,o+i*2,none⟩=some (.string f.1)/\w.cell? ⟨g,o+i*2+1,none⟩=some (.string f.2):=by
      intro i f hi;have hi2:i<l.length:=by have:=aL.1 hi;simpa using this.1
      obtain⟨g,o,jR,h0,_⟩:=k2 i 0 (by omega) (by omega);obtain⟨g',o',Ev,h0',_⟩:=k2 i 1 (by omega) (by omega);rw[jR] at Ev;cases Ev;have hr:=hrow i (by omega);rw[hrows,cR,cm hi2] at hr;rw[cR,cm hi2] at hi;simp[List.range_succ,Ei] at hr hi;obtain⟨r1,r2⟩:=hr;have q1:=tU r1.symm;have q2:=tU r2.symm;rw[q1] at h0;rw[q2] at h0';subst hi;refine⟨g,o,by rw[jR];rfl,?_,by simpa [C.val] using h0,by simpa [C.val] using h0'⟩;rcases gI g w.heap.size with h|h;·exact h
      ·simp[World.cell?,kP h] at h0
     have key:=hc (A.map λq=>(⟨q.1,q.2.1,q.2.2⟩:Addr)) cap (l.map Ei) w hcell (by rw[Qx];exact hh.1) (by simpa using hh.2);rw[Qx,cZ,<-nP] at key;refine Calls.mono key λe w' ⟨he,hb⟩=>?_;exact⟨.str ⟨(iZ l).toArray⟩,he,rfl,hb,tX (by have:=hh.1;simp only[ByteArray.size,oM];omega)⟩
    ·cases hg
   ·cases hg
  ·cases hg
end M
namespace M
open Go
def cN{β γ ε:Type}(go:Nat->γ->β->γ ⊕ ε):Nat->List β->γ->γ ⊕ ε
 |_,[],g=>.inl g
 |i,b::l,g=>match go i g b with
  |.inl g'=>cN go (i+1) l g'
  |.inr e=>.inr e
def Bl{xt:Nat}{β γ ε:Type}{f:ah->cv}(l:List β)(st:Nat->γ->ah)(go:Nat->γ->β->γ ⊕ ε)(E:γ->ah)(R:ε->Ex×ah)(Inv:Nat->γ->Prop)(g:γ)(h0:Inv 0 g)
  (h:∀i b g,l[i]?=some b->i<l.length->Inv i g->f (st i g)=(match go i g b with|.inl g'=>some (.normal,st (i+1) g')|.inr e=>lv (R e)))
  (hI:∀i b g g',l[i]?=some b->Inv i g->go i g b=.inl g'->Inv (i+1) g')
  (hend:∀g,Inv l.length g->f (st l.length g)=some (.exit xt,E g)):
  aI f (st 0 g)=(match cN go 0 l g with|.inl g'=>some (.exit xt,E g')|.inr e=>lv (R e)):=by
 suffices H:∀(r:List β) (i:Nat) (g:γ),Inv i g->l.drop i=r->i<=l.length->aI f (st i g)=(match cN go i r g with|.inl g'=>some (.exit xt,E g')|.inr e=>lv (R e)) from H l 0 g h0 rfl (oQ _)
 intro r;induction r with
 |nil=>
  intro i g hi hr hl;have:i=l.length:=by have:=dr List.length hr;simp at this;omega
  subst this;rw[cT,hend g hi];rfl
 |cons b r ih=>
  intro i g hi hr hl
  have hlt:i<l.length:=by
   rcases gI i l.length with h|h;·exact h
   ·rw[NP h] at hr;cases hr
  have hd:=qK hlt;rw[hr] at hd;have hb:l[i]?=some b:=by rw[cm hlt];cases hd;rfl
  have hr':l.drop (i+1)=r:=by cases hd;rfl
  rw[cT,h i b g hb hlt hi];unfold cN;cases hg:go i g b with
  |inl g'=>exact ih (i+1) g' (hI i b g g' hb hi hg) hr' hlt
  |inr e=>rcases hR:R e with ⟨x,s⟩;cases x<;>simp[fu,lv,hR]
def To{β γ ε:Type}{go:Nat->γ->β->γ ⊕ ε}{g:γ}(r:List β):∀(l:List β) (i:Nat),(∀j (h:j<l.length),go (i+j) g l[j]=.inl g)->cN go i (l++r) g=cN go (i+l.length) r g
 |[],i,_=>by simp
 |b::l,i,h=>by
  have h0:=h 0 (by simp);simp only[nB,Iv] at h0;rw[fR,cN,h0];simp only;rw[To r l (i+1) (λj hj=>by have:=h (j+1) (by simp;omega);simp only[NX] at this;rw[show i+1+j=i+(j+1) by omega];exact this),cu]
  congr 1;omega
def Tn{β γ ε:Type}(go:Nat->γ->β->γ ⊕ ε)(k:Nat):∀(l:List β) (i:Nat) (g:γ),cN (λj=>go (j+k)) i l g=cN go (i+k) l g
 |[],_,_=>rfl
 |b::l,i,g=>by
  rw[cN,cN];cases go (i+k) g b with
  |inl g'=>simp only;rw[Tn go k l (i+1) g',show i+1+k=i+k+1 by omega]
  |inr e=>rfl
def LQ{β γ ε:Type}{go:Nat->γ->β->γ ⊕ ε}{I:Nat->γ->Prop}{O:ε->Prop}(n:Nat)(h:∀i g b,i<n->I i g->(∀g',go i g b=.inl g'->I (i+1) g')/\∀e,go i g b=.inr e->O e):∀(l:List β) (i:Nat) (g:γ),i+l.length=n->I i g->(∀g',cN go i l g=.inl g'->I n g')/\∀e,cN go i l g=.inr e->O e
 |[],i,g,hn,hg=>by
  have:i=n:=by simpa using hn
  subst this;exact⟨λg' e=>by cases e;exact hg,λe h=>by cases h⟩
 |b::l,i,g,hn,hg=>by
  have h1:=h i g b (by simp at hn;omega) hg;rw[cN];cases fD:go i g b with
  |inl g'=>exact LQ n h l (i+1) g' (by simp at hn;omega) (h1.1 g' fD)
  |inr e=>exact⟨λg' e=>(by cases e),λe he=>(by cases he;exact h1.2 _ fD)⟩
end M
namespace M
open Go
def crlf:ag:=[13,10]
def aZ:ag:=[13,10,13,10]
def bH(c:UInt8)(s:ag):Prop:=∀b∈s,b≠c
def jX{c:UInt8}{s t:ag}:bH c (s++t)↔bH c s/\bH c t:=by
 unfold bH;constructor;·intro h;exact⟨λb hb=>h b (Nq _ hb),λb hb=>h b (Nr _ hb)⟩
 ·intro h b hb;rcases dO.1 hb with hb|hb;·exact h.1 b hb
  ·exact h.2 b hb
def uG{c b:UInt8}{s:ag}:bH c (b::s)↔b≠c/\bH c s:=by simp[bH]
def Fq(c:UInt8)(t:ag):∀(l r:ag),bH c l->Lib.index (l++r) (c::t)=if Lib.index r (c::t)=-1 then -1 else Lib.index r (c::t)+l.length
 |[],r,_=>by simp only[j7,iC];split<;>simp_all
 |b::l,r,h=>by
  rw[uG] at h;have ih:=Fq c t l r h.2;have hge:=Lib.index_ge r (c::t);rw[fR,Lib.index,ih];have hcb:(c==b)=false:=by simp;exact λe=>h.1 e.symm
  have hp:(c::t).isPrefixOf (b::(l++r))=false:=by simp[List.isPrefixOf,hcb]
  rw[hp];simp only[fA,dQ,cu];by_cases g:Lib.index r (c::t)=-1;·simp[g]
  ·have g2:¬(Lib.index r (c::t)+l.length=-1):=by omega
   simp only[g,dQ,eu,g2];omega
def adb(c:UInt8)(t:ag)(l:ag)(h:bH c l):Lib.index l (c::t)=-1:=by have:=Fq c t l [] h;rw[mD] at this;rw[this];rfl
def KO(c:UInt8)(t:ag)(l r:ag)(h:bH c l):Lib.index (l++(c::t++r)) (c::t)=l.length:=by
 have h0:Lib.index (c::t++r) (c::t)=0:=by rw[fR,Lib.index,au (by simp)]
 rw[Fq c t l _ h,h0];simp
def PG(c:UInt8)(t:ag)(l r:ag)(h:bH c l):Lib.cut (l++(c::t++r)) (c::t)=(l,r,true):=by
 unfold Lib.cut;rw[KO c t l r h,au (by omega)];have e1:((l.length:Int)).toNat=l.length:=by omega
 rw[e1,C7];have e2:l++(c::t++r)=(l++c::t)++r:=by simp
 have e3:l.length+(c::t).length=(l++c::t).length:=by simp
 rw[e2,e3,vL]
def agt(c:UInt8)(t:ag)(n:Nat)(l:ag)(h:bH c l):Lib.splitK (c::t) 0 n l=[l]:=by
 cases n with
 |zero=>rfl
 |succ n=>rw[Lib.splitK,adb c t l h];rfl
def agx(c:UInt8)(t:ag)(l:ag)(h:bH c l):Lib.split l (c::t)=[l]:=agt c t _ l h
def agv(c:UInt8)(t:ag)(l r:ag)(h:bH c l):Lib.split (l++(c::t++r)) (c::t)=l::Lib.split r (c::t):=by
 have hi:=KO c t l r h;have e2:l++(c::t++r)=(l++c::t)++r:=by simp
 have e3:l.length+(c::t).length=(l++c::t).length:=by simp
 have hd:(l++(c::t++r)).drop (l.length+(c::t).length)=r:=by rw[e2,e3,vL]
 have hc:=Lib.count_hit (s:=l++(c::t++r)) (sub:=c::t) (by simp) hi;rw[hd] at hc;unfold Lib.split;rw[hc,oP,Lib.splitK,hi];have g:¬(((l.length:Int))==-1)=true:=by simp
 rw[aC g];have e1:((l.length:Int)).toNat=l.length:=by omega
 rw[e1,hd,nB,C7]
def lines:List ag->ag
 |[]=>[]
 |[l]=>l
 |l::k::ls=>l++(crlf++lines (k::ls))
def RZ:∀(ls:List ag),ls≠[]->(∀l∈ls,bH 13 l)->Lib.split (lines ls) crlf=ls
 |[l],_,h=>agx 13 [10] l (h l (bq ..))
 |l::k::ls,_,h=>by have ih:=RZ (k::ls) (by simp) λx hx=>h x (bO _ hx);have:=agv 13 [10] l (lines (k::ls)) (h l (bq ..));show Lib.split (l++(crlf++lines (k::ls))) crlf=_;rw[show crlf=13::[10] from rfl,this];rw[show (13::[10]:ag)=crlf from rfl,ih]
def adO:∀(ls:List ag),ls≠[]->(∀l∈ls,l≠[])->(∀l∈ls,bH 13 l)->∃b t,lines ls=b::t/\b≠13
 |[l],_,h,h2=>by obtain⟨b,t,e⟩:=Vf (h l (bq ..));exact⟨b,t,e,h2 l (bq ..) b (by rw[e];exact bq ..)⟩
 |l::k::ls,_,h,h2=>by obtain⟨b,t,e⟩:=Vf (h l (bq ..));exact⟨b,t++(crlf++lines (k::ls)),by show l++_=_;rw[e];rfl,h2 l (bq ..) b (by rw[e];exact bq ..)⟩
def RY(b:ag):∀(ls:List ag),ls≠[]->(∀l∈ls,l≠[])->(∀l∈ls,bH 13 l)->Lib.index (lines ls++(aZ++b)) aZ=(lines ls).length
 |[l],_,h,h2=>KO 13 [10,13,10] l b (h2 l (bq ..))
 |l::k::ls,_,h,h2=>by
  have hk:∀x∈k::ls,x≠[]:=λx hx=>h x (bO _ hx);have hk2:∀x∈k::ls,bH 13 x:=λx hx=>h2 x (bO _ hx);have ih:=RY b (k::ls) (by simp) hk hk2;obtain⟨c,t,e,hc⟩:=adO (k::ls) (by simp) hk hk2;have e0:lines (l::k::ls)++(aZ++b)=l++(13::10::(lines (k::ls)++(aZ++b))):=by show (l++(crlf++lines (k::ls)))++(aZ++b)=_;simp[crlf]
  have e1:(lines (l::k::ls)).length=l.length+2+(lines (k::ls)).length:=by show (l++(crlf++lines (k::ls))).length=_;simp[crlf];omega
  have hcb:((13:UInt8)==c)=false:=by simp;exact λe=>hc e.symm
  have p1:aZ.isPrefixOf (13::10::(lines (k::ls)++(aZ++b)))=false:=by rw[e];simp[aZ,List.isPrefixOf,hcb]
  have p2:aZ.isPrefixOf (10::(lines (k::ls)++(aZ++b)))=false:=by simp[aZ,List.isPrefixOf]
  have e2:Lib.index (13::10::(lines (k::ls)++(aZ++b))) aZ=(lines (k::ls)).length+2:=by
   rw[Lib.index,p1,Lib.index,p2,ih];have q1:¬(((lines (k::ls)).length:Int)==-1)=true:=by simp
   simp only[fA,dQ,q1];have q2:¬(((lines (k::ls)).length:Int)+1==-1)=true:=by simp;omega
   simp only[q2];simp;omega
  rw[e0,show aZ=13::[10,13,10] from rfl,Fq 13 [10,13,10] l _ (h2 l (bq ..)),show (13::[10,13,10]:ag)=aZ from rfl,e2,e1,aC (by omega)];omega
def adN(b:ag)(ls:List ag)(h0:ls≠[])(h:∀l∈ls,l≠[])(h2:∀l∈ls,bH 13 l):Lib.cut (lines ls++(aZ++b)) aZ=(lines ls,b,true):=by
 unfold Lib.cut;rw[RY b ls h0 h h2,au (by omega)];have e1:(((lines ls).length:Int)).toNat=(lines ls).length:=by omega
 have e2:lines ls++(aZ++b)=(lines ls++aZ)++b:=by simp
 have e3:(lines ls).length+aZ.length=(lines ls++aZ).length:=by simp
 rw[e1,C7,e3,e2,vL]
def n7:ag:=[72,84,84,80,47,49,46,49]
def ig(f:aJ):ag:=f.name++([58,32]++f.value)
def El(fs:List aJ):ag:=fs.flatMap λf=>ig f++crlf
def jW(b:ag):ag:=dJ++([58,32]++aS b.length)
def kG(r:bP):ag:=n7++32::(aS r.status.toNat++[32,46])
def gb(r:bP):List ag:=kG r::(r.fields.map ig++[jW r.body])
def ga(r:bP):ag:=lines (gb r)++(aZ++r.body)
def fo(r:bP):ag:=if fm r=true then ga r else []
def abN(fs:List aJ):iZ fs=El fs:=by unfold iZ El;congr 1;funext f;simp[ry,ig,crlf]
def adM(fs:List aJ)(l z:ag):lines (l::(fs.map ig++[z]))=l++(crlf++(El fs++z)):=by
 induction fs generalizing l with
 |nil=>rfl
 |cons f fs ih=>show l++(crlf++lines (ig f::(fs.map ig++[z])))=_;rw[ih];simp[El]
def Ti(r:bP):ga r=kG r++(crlf++(iZ r.fields++(jW r.body++(aZ++r.body)))):=by unfold ga gb;rw[adM,abN];simp
def q9(c:UInt8)(hc:c.toNat<48\/57<c.toNat)(n:Nat):bH c (aS n):=by intro b hb e;have:=ff.1 (Jv n) b hb;simp only[ic,aY] at this;subst e;omega
def HH(c:UInt8)(hc:s4 c=false){s:ag}(h:en s=true):bH c s:=by intro b hb e;unfold en at h;simp only[az] at h;have:=ff.1 h.1 b hb;rw[e,hc] at this;cases this
def agR{s:ag}(h:en s=true):s≠[]:=by rintro rfl;simp[en] at h
def M5(c:UInt8)(hc:iR 32 c=false){s:ag}(h:fP s=true):bH c s:=by intro b hb e;unfold fP at h;simp only[az] at h;have:=ff.1 h.1.1 b hb;rw[e,hc] at this;cases this
def Ec{fs:List aJ}(h:jO fs=true){f:aJ}(hf:f∈fs):en f.name=true/\fP f.value=true/\f.name≠dJ:=by unfold jO at h;simp only[az] at h;obtain⟨i,hi,rfl⟩:=vO hf;have:=ff.1 h.1 (fs[i],i) (mB (i:=i) (by simp[hi]));unfold js at this;simp only[az,tf,Ik] at this;exact⟨this.1.1.1,this.1.1.2,this.2⟩
def P7{fs:List aJ}(h:jO fs=true):fs.length<=8:=by unfold jO at h;simp only[az,aY] at h;omega
def Y0{f:aJ}(h1:en f.name=true)(h2:fP f.value=true):bH 13 (ig f)/\bH 10 (ig f)/\ig f≠[]:=by
 refine⟨?_,?_,?_⟩;·unfold ig;rw[jX,jX];exact⟨HH 13 (by decide) h1,by simp[bH],M5 13 (by decide) h2⟩
 ·unfold ig;rw[jX,jX];exact⟨HH 10 (by decide) h1,by simp[bH],M5 10 (by decide) h2⟩
 ·have:=agR h1;simp[ig]
def adG(b:ag):bH 13 (jW b)/\bH 10 (jW b)/\jW b≠[]:=by
 refine⟨?_,?_,by simp[jW]⟩;·unfold jW;rw[jX,jX];exact⟨by simp[bH,dJ],by simp[bH],q9 13 (by decide) _⟩
 ·unfold jW;rw[jX,jX];exact⟨by simp[bH,dJ],by simp[bH],q9 10 (by decide) _⟩
def af4(r:bP):bH 13 (kG r)/\bH 10 (kG r)/\kG r≠[]:=by
 refine⟨?_,?_,by simp[kG,n7]⟩;·unfold kG;rw[jX,uG,jX];exact⟨by simp[bH,n7],by decide,q9 13 (by decide) _,by simp[bH]⟩
 ·unfold kG;rw[jX,uG,jX];exact⟨by simp[bH,n7],by decide,q9 10 (by decide) _,by simp[bH]⟩
def Tm{r:bP}(h:jO r.fields=true):∀l∈gb r,bH 13 l/\bH 10 l/\l≠[]:=by
 intro l hl;unfold gb at hl;simp only[b9,dO,bg,Nv,or_false] at hl;rcases hl with rfl|⟨f,hf,rfl⟩|rfl;·exact af4 r
 ·have:=Ec h hf;exact Y0 this.1 this.2.1
 ·exact adG r.body
end M
namespace M
open Go
open Classical in
noncomputable def mc{α:Type}(body:α->ag)(ok:α->Bool)(z:α)(s:ag):α×Bool:=
 if h:∃r,ok r=true/\body r=s then (h.choose,true) else (z,false)
def FR{α:Type}{body:α->ag}{ok:α->Bool}{z:α}{cand:ag->Option α}(hc:∀r,ok r=true->cand (body r)=some r)(s:ag):
  mc body ok z s=match cand s with
   |some r=>if ok r=true/\body r=s then (r,true) else (z,false)
   |none=>(z,false):=by
 unfold mc;by_cases h:∃r,ok r=true/\body r=s;·rw[kO h];have h1:=h.choose_spec;have h2:=hc _ h1.1;rw[h1.2] at h2;rw[h2];simp only;rw[au h1]
 ·rw[qJ h];cases hs:cand s with
  |none=>rfl
  |some r=>simp only;rw[aC];exact λhr=>h ⟨r,hr⟩
def S8{α:Type}{body:α->ag}{ok:α->Bool}{z:α}{s:ag}(h:(mc body ok z s).2=true):ok (mc body ok z s).1=true/\body (mc body ok z s).1=s:=by
 unfold mc at h⊢;by_cases g:∃r,ok r=true/\body r=s;·rw[kO g];exact g.choose_spec
 ·rw[qJ g] at h;cases h
def S7{α:Type}{body:α->ag}{ok:α->Bool}{z:α}{s:ag}(h:(mc body ok z s).2=false):mc body ok z s=(z,false):=by
 unfold mc at h⊢;by_cases g:∃r,ok r=true/\body r=s;·rw[kO g] at h;cases h
 ·rw[qJ g]
def S6{α:Type}{body:α->ag}{ok:α->Bool}{z:α}{cand:ag->Option α}(hc:∀r,ok r=true->cand (body r)=some r){r:α}(h:ok r=true):mc body ok z (body r)=(r,true):=by rw[FR hc,hc r h];simp only;rw[au ⟨h,trivial⟩]
def colon:ag:=[58,32]
def lP:List ag->Option (List aJ)
 |[]=>some []
 |l::ls=>if (Lib.cut l colon).2.2=true then (if ls=[]/\(Lib.cut l colon).1=dJ then some [] else (lP ls).map λfs=>⟨(Lib.cut l colon).1,(Lib.cut l colon).2.1⟩::fs) else none
def ld(s:ag):Option (ag×List aJ×ag):=
 if (Lib.cut s aZ).2.2=true/\((Lib.split (Lib.cut s aZ).1 crlf).length:Int)<=10 then (lP (Lib.split (Lib.cut s aZ).1 crlf).tail).map λfs=>((Lib.split (Lib.cut s aZ).1 crlf).headD [],fs,(Lib.cut s aZ).2.1)
 else none
def kI(ws:List ag):Option ag:=match ws with
 |[_,w,_]=>some w
 |_=>none
def om(s:ag):Option bP:=(ld s).bind λp=>(kI (bp 32 p.1)).map λw=>⟨(((bx w).getD 0:Nat):Int),p.2.1,p.2.2⟩
def ct:bP:=⟨0,[],[]⟩
noncomputable def cP(s:ag):bP×Bool:=mc ga fm ct s
def CF(w r:ag)(h:bH 32 w):bp 32 (w++32::r)=w::bp 32 r:=by rw[CD 32 w _ h];simp[bp]
def Tl(r:bP):bp 32 (kG r)=[n7,aS r.status.toNat,[46]]:=by unfold kG;rw[CF _ _ (by simp[bH,n7]),show ([32,46]:ag)=32::[46] from rfl,CF _ _ (q9 32 (by decide) _),MJ 32 [46] (by simp)]
def Qn(b:ag):∀(fs:List aJ),(∀f∈fs,en f.name=true/\fP f.value=true/\f.name≠dJ)->lP (fs.map ig++[jW b])=some fs
 |[],_=>by have:Lib.cut (jW b) colon=(dJ,aS b.length,true):=PG 58 [32] dJ (aS b.length) (by simp[bH,dJ]);simp[lP,this]
 |f::fs,h=>by have hf:=h f (bq ..);have ih:=Qn b fs λx hx=>h x (bO _ hx);have:Lib.cut (ig f) colon=(f.name,f.value,true):=PG 58 [32] f.name f.value (HH 58 (by decide) hf.1);simp only[bn,fR,lP,this,ih];simp
def LF{r:bP}(h:fm r=true):(100<=r.status/\r.status<=599)/\jO r.fields=true/\r.body.length<=120:=by unfold fm at h;simp only[az,aY] at h;exact⟨h.1.1,h.1.2,by omega⟩
def LN{r:bP}(h:fm r=true):om (ga r)=some r:=by
 obtain⟨hs,hf,hb⟩:=LF h;have hl:=Tm hf;have hne:gb r≠[]:=by simp[gb]
 have hc:=adN r.body (gb r) hne (λl h=>(hl l h).2.2) (λl h=>(hl l h).1);have hsp:=RZ (gb r) hne (λl h=>(hl l h).1);have hlen:=P7 hf;have hp:ld (ga r)=some (kG r,r.fields,r.body):=by unfold ld ga;rw[hc];simp only;rw[hsp,au ⟨trivial,by simp[gb];omega⟩];have ht:(gb r).tail=r.fields.map ig++[jW r.body]:=rfl;rw[ht,Qn r.body r.fields λf hf'=>Ec hf hf'];rfl
 unfold om;rw[hp];simp only[gj];rw[Tl];have hn:bx (aS r.status.toNat)=some r.status.toNat:=lZ.2 ⟨by omega,rfl⟩;simp only[kI,cg,hn,vI];have:((r.status.toNat:Nat):Int)=r.status:=by omega
 rw[this]
def F1{r:bP}{s:ag}(hs:s≠[]):fo r=s↔fm r=true/\ga r=s:=by
 unfold fo;constructor
 ·intro h;split at h;·rename_i g;exact⟨g,h⟩
  ·exact absurd h.symm hs
 ·rintro ⟨g,h⟩;rw[au g,h]
def Tj(r:bP):ga r≠[]:=by rw[Ti];simp[kG,n7]
def LJ(r:bP):fo r=[]↔¬fm r=true:=by unfold fo;have:=Tj r;split<;>simp_all
def afV(s:ag):cP s=match om s with
  |some r=>if fo r=s/\s≠[] then (r,true) else (ct,false)
  |none=>(ct,false):=by
 unfold cP;rw[FR (cand:=om) (λr h=>LN h) s];cases om s with
 |none=>rfl
 |some r=>
  simp only;by_cases hs:s=[];·subst hs;rw[aC (λh=>Tj r h.2),aC (by simp)]
  ·by_cases g:fo r=s;·rw[au ((F1 hs).1 g),au ⟨g,hs⟩]
   ·rw[aC (mt (F1 hs).2 g),aC (λh=>g h.1)]
def lY:ag:=[111,98,106]
def p6(o:Ob):ag:=lY++32::(o.path++32::(cV o.t++32::aS o.values.length))
def iz(l:List ag):ag:=l.flatMap λv=>v++[10]
def k9(o:Ob):ag:=p6 o++10::(iz o.values++ga o.resp)
def dA(o:Ob):ag:=if dx o=true then k9 o else []
def cW:Ob:=⟨[],[],[],ct,0⟩
noncomputable def gU(s:ag):Ob×Bool:=mc k9 dx cW s
def fV(s:ag):ag×ag:=(cE 10 s).getD (s,[])
def ek:Nat->ag->List ag×ag
 |0,s=>([],s)
 |n+1,s=>((fV s).1::(ek n (fV s).2).1,(ek n (fV s).2).2)
def lD(ws:List ag):Option (ag×ag×ag):=match ws with
 |[_,p,t,n]=>some (p,t,n)
 |_=>none
def Jt(p r:ag)(h:bH 10 p):cE 10 (p++10::r)=some (p,r):=by
 induction p with
 |nil=>simp[cE]
 |cons b p ih=>rw[uG] at h;rw[fR,cE,aC h.1,ih h.2];rfl
def PE(p r:ag)(h:bH 10 p):fV (p++10::r)=(p,r):=by unfold fV;rw[Jt p r h];rfl
def T0(r:ag):∀(l:List ag),(∀v∈l,bH 10 v)->ek l.length (iz l++r)=(l,r)
 |[],_=>rfl
 |v::l,h=>by
  have e:iz (v::l)++r=v++10::(iz l++r):=by simp[iz]
  rw[e,cu,ek,PE v _ (h v (bq ..)),T0 r l λx hx=>h x (bO _ hx)]
def Ur(c:UInt8){lo:Nat}(hc:iR lo c=false){s:ag}(h:aX (iR lo) s=true):bH c s:=by intro b hb e;have:=ff.1 h b hb;rw[e,hc] at this;cases this
def SS{s:ag}(h:iw s=true):bH 32 s/\bH 10 s:=by unfold iw at h;simp only[az] at h;exact⟨Ur 32 (by decide) h.1.1,Ur 10 (by decide) h.1.1⟩
def Sw(c:UInt8)(hc:c.toNat<48\/57<c.toNat)(n:Int):bH c (cV n):=by
 unfold cV;split;·exact q9 c hc _
 ·simp[bH]
structure zg (o:Ob):Prop where
 resp:fm o.resp=true
 path:iw o.path=true
 t0:0<=o.t
 t1:o.t<=1000000
 names:ng o.names=true
 Un:o.names=dn o.resp.fields
 len:o.values.length=o.names.length
 n4:o.names.length<=4
 vals:∀v∈o.values,fP v=true
def xD{o:Ob}(h:dx o=true):zg o:=by
 unfold dx at h;simp only[az,aY] at h;have hn:o.names.length<=4:=by have:=h.1.1.1.2;unfold ng at this;simp only[az,aY] at this;omega
 obtain⟨⟨⟨⟨⟨⟨h1,h2⟩,h3,h4⟩,h5⟩,h6⟩,h7⟩,h8⟩:=h;exact⟨h1,h2,h3,h4,h5,h6,by omega,hn,λv hv=>ff.1 h8 v hv⟩
def Sz{o:Ob}(h:zg o):bp 32 (p6 o)=[lY,o.path,cV o.t,aS o.values.length]:=by unfold p6;rw[CF _ _ (by simp[bH,lY]),CF _ _ (SS h.path).1,CF _ _ (Sw 32 (by decide) _),MJ 32 _ (q9 32 (by decide) _)]
def Sy{o:Ob}(h:zg o):bH 10 (p6 o):=by unfold p6;rw[jX,uG,jX,uG,jX,uG];exact⟨by simp[bH,lY],by decide,(SS h.path).2,by decide,Sw 10 (by decide) _,by decide,q9 10 (by decide) _⟩
def Ul{o:Ob}(h:zg o):∀v∈o.values,bH 10 v:=λv hv=>M5 10 (by decide) (h.vals v hv)
noncomputable def Bx(p:ag)(t n:Nat)(b:ag):Option Ob:=if n<=4 then (if (cP (ek n b).2).2=true then some ⟨p,dn (cP (ek n b).2).1.fields,(ek n b).1,(cP (ek n b).2).1,t⟩ else none) else none
noncomputable def xC(s:ag):Option Ob:=(lD (bp 32 (fV s).1)).bind λw=>(bx w.2.1).bind λt=>(bx w.2.2).bind λn=>Bx w.1 t n (fV s).2
def aeM{o:Ob}(h:zg o):Bx o.path o.t.toNat o.values.length (iz o.values++ga o.resp)=some o:=by
 have h1:=T0 (ga o.resp) o.values (Ul h);have h2:cP (ga o.resp)=(o.resp,true):=S6 (cand:=om) (λr h=>LN h) h.resp;unfold Bx;have hl:=h.len;have h4:=h.n4;rw[au (by omega),h1];simp only;rw[h2,au rfl];simp only;have ht:((o.t.toNat:Nat):Int)=o.t:=by have:=h.t0;omega
 rw[ht,<-h.Un]
def aeE{o:Ob}(ho:dx o=true):xC (k9 o)=some o:=by
 have h:=xD ho;unfold xC k9;rw[PE _ _ (Sy h)];simp only;rw[Sz h];have h0:=h.t0;have h1:=h.t1;have hl:=h.len;have h4:=h.n4
 have hn:bx (cV o.t)=some o.t.toNat:=by
  have e:o.t=((o.t.toNat:Nat):Int):=by omega
  rw[e,Sv _ (by omega)];simp;omega
 have hd:bx (aS o.values.length)=some o.values.length:=lZ.2 ⟨by omega,rfl⟩;simp only[lD,gj,hn,hd];exact aeM h
def aeC(o:Ob):k9 o≠[]:=by simp[k9,p6,lY]
def SF{o:Ob}{s:ag}(hs:s≠[]):dA o=s↔dx o=true/\k9 o=s:=by
 unfold dA;constructor
 ·intro h;split at h;·rename_i g;exact⟨g,h⟩
  ·exact absurd h.symm hs
 ·rintro ⟨g,h⟩;rw[au g,h]
def Lo(o:Ob):dA o=[]↔¬dx o=true:=by unfold dA;have:=aeC o;split<;>simp_all
def SA{cand:ag->Option Ob}(hc:∀o,dx o=true->cand (k9 o)=some o)(hn:cand []=none)(s:ag):gU s=match cand s with
  |some o=>if dA o=s then (o,true) else (cW,false)
  |none=>(cW,false):=by
 unfold gU;rw[FR (cand:=cand) hc s];cases hs:cand s with
 |none=>rfl
 |some o=>
  simp only;have hs0:s≠[]:=by rintro rfl;rw[hn] at hs;cases hs
  by_cases g:dA o=s;·rw[au ((SF hs0).1 g),au g]
  ·rw[aC (mt (SF hs0).2 g),aC g]
def aeF:xC []=none:=by simp[xC,fV,cE,bp,lD]
def aeI(s:ag):gU s=match xC s with
  |some o=>if dA o=s then (o,true) else (cW,false)
  |none=>(cW,false):=SA (λo h=>aeE h) aeF s
end M
namespace M
open Go
def gP(s:ag)(i:Nat)(g:List ag×Nat)(b:UInt8):(List ag×Nat) ⊕ (List ag×Nat):=
 if b=10/\1<=i/\s[i - 1]?=some 13/\g.2+1<=i then
  (if (s.take (i - 1)).drop g.2=[] then .inr (g.1,i+1) else .inl (g.1++[(s.take (i - 1)).drop g.2],i+1))
 else .inl g
def pG(s:ag):(List ag×Nat) ⊕ (List ag×Nat):=cN (λj=>gP s (j+1)) 0 (s.drop 1) ([],0)
def iq(s:ag):List ag:=match pG s with|.inl g=>g.1|.inr g=>g.1
def kX(s:ag):Int:=match pG s with|.inl g=>-1|.inr g=>g.2
def Ra(s:ag):pG s=cN (gP s) 0 s ([],0):=by
 unfold pG;rw[Tn (gP s) 1];cases s with
 |nil=>rfl
 |cons b s=>
  rw[cN];have:gP (b::s) 0 ([],0) b=.inl ([],0):=by unfold gP;rw[aC (by omega)]
  rw[this];rfl
def J9(s A l R:ag)(out:List ag)(hs:s=A++(l++(crlf++R)))(hl:bH 13 l):
  cN (gP s) A.length (l++(crlf++R)) (out,A.length)=if l=[] then .inr (out,A.length+2) else cN (gP s) (A.length+l.length+2) R (out++[l],A.length+l.length+2):=by
 rw[To (crlf++R) l A.length (λj hj=>by
  unfold gP;rw[aC];rintro ⟨h1,h2,h3,h4⟩;simp only at h4;have hj0:0<j:=by omega
  rw[hs,iB (by omega),nF (by omega)] at h3;exact hl 13 (mB h3) rfl)]
 have g1:gP s (A.length+l.length) (out,A.length) 13=.inl (out,A.length):=by unfold gP;rw[aC];rintro ⟨h1,_⟩;exact absurd h1 (by decide)
 have e1:s[A.length+l.length]?=some 13:=by
  rw[hs,iB (by omega),iB (by omega)];have:A.length+l.length - A.length - l.length=0:=by omega
  rw[this];rfl
 have e2:(s.take (A.length+l.length)).drop A.length=l:=by
  have:s=(A++l)++(crlf++R):=by rw[hs];simp
  rw[this,show A.length+l.length=(A++l).length by simp,C7,vL]
 have g2:gP s (A.length+l.length+1) (out,A.length) 10=if l=[] then .inr (out,A.length+l.length+2) else .inl (out++[l],A.length+l.length+2):=by
  unfold gP;have e3:A.length+l.length+1 - 1=A.length+l.length:=by omega
  rw[e3,au ⟨rfl,by omega,e1,by simp only;omega⟩];simp only;rw[e2]
 show cN (gP s) (A.length+l.length) (13::10::R) (out,A.length)=_;rw[cN,g1];simp only;rw[cN,g2];by_cases h:l=[];·subst h;simp
 ·simp only[h,dQ]
def Rc(s b:ag):∀(ls:List ag) (A:ag) (out:List ag),ls≠[]->(∀l∈ls,l≠[])->(∀l∈ls,bH 13 l)->s=A++(lines ls++(aZ++b))->
  cN (gP s) A.length (lines ls++(aZ++b)) (out,A.length)=.inr (out++ls,A.length+(lines ls).length+4)
 |[l],A,out,_,h,h2,hs=>by
  have e:lines [l]++(aZ++b)=l++(crlf++([]++(crlf++b))):=by simp[lines,aZ,crlf]
  rw[e] at hs⊢;have h0:l≠[]:=h l (bq ..);rw[J9 s A l _ out hs (h2 l (bq ..)),aC h0];have e2:A.length+l.length+2=(A++l++crlf).length:=by simp[crlf];omega
  rw[e2,J9 s (A++l++crlf) [] b _ (by rw[hs];simp) (by simp[bH]),au rfl];simp[crlf,lines];omega
 |l::k::ls,A,out,_,h,h2,hs=>by
  have e:lines (l::k::ls)++(aZ++b)=l++(crlf++(lines (k::ls)++(aZ++b))):=by show (l++(crlf++lines (k::ls)))++(aZ++b)=_;simp
  rw[e] at hs⊢;have h0:l≠[]:=h l (bq ..);rw[J9 s A l _ out hs (h2 l (bq ..)),aC h0];have e2:A.length+l.length+2=(A++l++crlf).length:=by simp[crlf];omega
  rw[e2,Rc s b (k::ls) (A++l++crlf) (out++[l]) (by simp) (λx hx=>h x (bO _ hx)) (λx hx=>h2 x (bO _ hx)) (by rw[hs];simp)];have e3:(lines (l::k::ls)).length=l.length+2+(lines (k::ls)).length:=by show (l++(crlf++lines (k::ls))).length=_;simp[crlf];omega
  rw[e3];simp[crlf];omega
def acp(ls:List ag)(b:ag)(h0:ls≠[])(h:∀l∈ls,l≠[])(h2:∀l∈ls,bH 13 l):pG (lines ls++(aZ++b))=.inr (ls,(lines ls).length+4):=by have:=Rc (lines ls++(aZ++b)) b ls [] [] h0 h h2 rfl;rw[Ra];simpa using this
def Rb(s:ag):wL wS (iq s)<=s.length/\kX s<=s.length/\-1<=kX s:=by
 have H:=LQ (go:=gP s) (I:=λi g=>wL wS g.1<=g.2/\g.2<=i) (O:=λg=>wL wS g.1<=g.2/\g.2<=s.length) s.length (λi g b hi hg=>by
  unfold gP;by_cases hc:b=10/\1<=i/\s[i - 1]?=some 13/\g.2+1<=i
  ·rw[au hc];by_cases hl:(s.take (i - 1)).drop g.2=[];·rw[au hl];exact⟨λg' h=>(by cases h),λe h=>(by cases h;simp only;omega)⟩
   ·rw[aC hl];refine⟨λg' h=>?_,λe h=>(by cases h)⟩;cases h;simp only;have e:wL wS (g.1++[(s.take (i - 1)).drop g.2])=wL wS g.1+1+((s.take (i - 1)).drop g.2).length:=by simp[wL,wS];omega
    have e2:((s.take (i - 1)).drop g.2).length=i - 1 - g.2:=by simp;omega
    rw[e,e2];omega
  ·rw[aC hc];exact⟨λg' h=>(by cases h;omega),λe h=>(by cases h)⟩) s 0 ([],0) (by simp) (by simp[wL])
 rw[<-Ra] at H;unfold iq kX;cases hr:pG s with
 |inl g=>have:=H.1 g hr;simp only;omega
 |inr g=>have:=H.2 g hr;simp only;omega
def q8(x:UInt8×UInt8):Bool:=decide (x.1=58) && decide (x.2=32)
def tR(l:ag):Option (Nat×(UInt8×UInt8)):=dH q8 0 (l.zip (l.drop 1))
def gS(l:ag):List aJ:=match tR l with
 |some (k,_)=>if l.take k=dJ then [] else [⟨l.take k,l.drop (k+2)⟩]
 |none=>[]
def Qh{β:Type}{p:β->Bool}:∀(l:List β) (k i:Nat) (b:β),l[i]?=some b->p b=true->(∀j,j<i->∀c,l[j]?=some c->p c=false)->dH p k l=some (k+i,b)
 |[],k,i,b,h,_,_=>by simp at h
 |a::l,k,0,b,h,hp,_=>by simp at h;subst h;simp[dH,hp]
 |a::l,k,i+1,b,h,hp,hj=>by have h0:=hj 0 (by omega) a (by simp);rw[Iu] at h;have ih:=Qh l (k+1) i b h hp λj hj' c hc=>hj (j+1) (by omega) c (by simpa using hc);simp only[dH,h0,fA,dQ,ih];congr 2;omega
def YI(n v:ag)(h:bH 58 n):tR (n++([58,32]++v))=some (n.length,(58,32)):=by
 unfold tR
 have:=Qh (p:=q8) ((n++([58,32]++v)).zip ((n++([58,32]++v)).drop 1)) 0 n.length (58,32) (by
  rw[NW];constructor;·rw[iB (by omega)];simp
  ·rw[oS,iB (by omega)];have:1+n.length - n.length=1:=by omega
   rw[this];rfl) (by decide) (λj hj c hc=>by
  have h1:=(NW.1 hc).1;rw[nF hj] at h1;have:=h c.1 (mB h1);simp[q8,this])
 rw[this];simp
def RX{f:aJ}(h:bH 58 f.name):gS (ig f)=if f.name=dJ then [] else [f]:=by
 unfold gS ig;rw[YI _ _ h];simp only;have e1:(f.name++([58,32]++f.value)).take f.name.length=f.name:=C7
 have e2:(f.name++([58,32]++f.value)).drop (f.name.length+2)=f.value:=by
  have:f.name++([58,32]++f.value)=(f.name++[58,32])++f.value:=by simp
  rw[this,show f.name.length+2=(f.name++[58,32]).length by simp,vL]
 rw[e1,e2]
def adI(b:ag):gS (jW b)=[]:=by have:=RX (f:=⟨dJ,aS b.length⟩) (by simp[bH,dJ]);simp only[cY] at this;exact this
def adK(b:ag)(fs:List aJ)(h:∀f∈fs,en f.name=true/\fP f.value=true/\f.name≠dJ):(fs.map ig++[jW b]).flatMap gS=fs:=by
 induction fs with
 |nil=>simp[adI]
 |cons f fs ih=>have hf:=h f (bq ..);have ih:=ih λx hx=>h x (bO _ hx);rw[bn,fR,jF,RX (HH 58 (by decide) hf.1),aC hf.2.2,ih];rfl
def adJ(l:ag):wL aO (gS l)<=l.length+1:=by
 unfold gS;cases hc:tR l with
 |none=>simp[wL]
 |some x=>
  simp only;split;·simp[wL]
  ·simp[wL,aO];omega
def adL(ls:List ag):wL aO (ls.flatMap gS)<=wL wS ls:=by
 induction ls with
 |nil=>simp[wL]
 |cons l ls ih=>have h:=adJ l;simp only[wL,jF,e9,iS,yU,cu,bn,oN,wS] at*;omega
def oo(s:ag):Option bP:=if 0<=kX s/\iq s≠[] then (kI (bp 32 ((iq s).headD []))).map λw=>⟨(((bx w).getD 0:Nat):Int),(iq s).tail.flatMap gS,s.drop (kX s).toNat⟩ else none
def af5{r:bP}(h:fm r=true):oo (ga r)=some r:=by
 obtain⟨hs,hf,hb⟩:=LF h;have hl:=Tm hf;have hne:gb r≠[]:=by simp[gb]
 have hr:=acp (gb r) r.body hne (λl h=>(hl l h).2.2) (λl h=>(hl l h).1);have e1:iq (ga r)=gb r:=by unfold iq ga;rw[hr]
 have e2:kX (ga r)=(((lines (gb r)).length+4:Nat):Int):=by unfold kX ga;rw[hr]
 unfold oo;rw[e1,e2,au ⟨by omega,hne⟩];have e3:(gb r).headD []=kG r:=rfl;have e4:(gb r).tail=r.fields.map ig++[jW r.body]:=rfl
 have e5:(ga r).drop (((lines (gb r)).length+4:Nat):Int).toNat=r.body:=by
  unfold ga;have:lines (gb r)++(aZ++r.body)=(lines (gb r)++aZ)++r.body:=by simp
  rw[this,show (((lines (gb r)).length+4:Nat):Int).toNat=(lines (gb r)++aZ).length by simp[aZ];omega,vL]
 rw[e3,e4,e5,adK r.body r.fields λf hf'=>Ec hf hf',Tl];have hn:bx (aS r.status.toNat)=some r.status.toNat:=lZ.2 ⟨by omega,rfl⟩;simp only[kI,cg,hn,vI];have:((r.status.toNat:Nat):Int)=r.status:=by omega
 rw[this]
def af6:oo []=none:=by unfold oo;rw[aC];intro h;have:kX []=-1:=rfl;omega
def afW(s:ag):cP s=match oo s with
  |some r=>if fo r=s then (r,true) else (ct,false)
  |none=>(ct,false):=by
 unfold cP;rw[FR (cand:=oo) (λr h=>af5 h) s];cases hs:oo s with
 |none=>rfl
 |some r=>
  simp only;have hs0:s≠[]:=by rintro rfl;rw[af6] at hs;cases hs
  by_cases g:fo r=s;·rw[au ((F1 hs0).1 g),au g]
  ·rw[aC (mt (F1 hs0).2 g),aC g]
def af7{s:ag}{r:bP}(h:oo s=some r):bZ r<=2*s.length:=by
 unfold oo at h;split at h
 ·obtain⟨w,hw,rfl⟩:=kN.1 h;have h1:=Rb s;have h2:=adL (iq s).tail;have h3:wL wS (iq s).tail<=wL wS (iq s):=by cases iq s<;>simp[wL];omega
  simp only[bZ,vP];omega
 ·cases h
end M
namespace M
open Go
def M7{α:Type}(w:α->Nat)(l:List α)(n:Nat):wL w (l.take n)<=wL w l:=by have h:l=l.take n++l.drop n:=(U7 n l).symm;have h1:=dr List.length h;have h2:=dr (λl=>(l.map w).sum) h;simp only[e9] at h1;simp only[iS,yU] at h2;unfold wL;omega
end M
namespace M
open Go
end M
namespace M
open Go
def eE{α:Type}(q:α->Int)(k:α):List α->List α
 |[]=>[k]
 |x::l=>if q k<q x then k::x::l else x::eE q k l
def gF{α:Type}(q:α->Int)(l:List α):List α:=l.foldl (λS k=>eE q k S) []
def l6{α:Type}(q:α->Int)(l:List α):Prop:=l.Pairwise λa b=>q a<=q b
def Fu{α:Type}(q:α->Int)(k:α):∀l:List α,(eE q k l).Perm (k::l)
 |[]=>List.Perm.refl _
 |x::l=>by
  unfold eE;split;·exact List.Perm.refl _
  ·exact((Fu q k l).cons x).trans (List.Perm.swap ..)
def adg{α:Type}{q:α->Int}{k x:α}{l:List α}:x∈eE q k l↔x=k\/x∈l:=by rw[(Fu q k l).mem_iff];simp
def RF{α:Type}(q:α->Int)(k:α)(l:List α):(eE q k l).length=l.length+1:=by rw[(Fu q k l).length_eq];rfl
def KR{α:Type}{q:α->Int}{k:α}:∀{l:List α},l6 q l->l6 q (eE q k l)
 |[],_=>by simp[eE,l6]
 |x::l,h=>by
  unfold l6 at h⊢;rw[eZ] at h;unfold eE;split
  ·rename_i g;rw[eZ];refine⟨λy hy=>?_,eZ.2 h⟩;rcases b9.1 hy with rfl|hy;·omega
   ·have:=h.1 y hy;omega
  ·rename_i g;rw[eZ];refine⟨λy hy=>?_,KR h.2⟩;rcases adg.1 hy with rfl|hy;·omega
   ·exact h.1 y hy
def agq{α:Type}(q:α->Int)(l:List α)(k:α):gF q (l++[k])=eE q k (gF q l):=by simp[gF]
def Hx{α:Type}(q:α->Int)(l:List α):(gF q l).Perm l:=by
 suffices H:∀(l S:List α),(l.foldl (λS k=>eE q k S) S).Perm (S++l) by simpa [gF] using H l []
 intro l;induction l with
 |nil=>intro S;simp
 |cons k l ih=>intro S;rw[nE];refine(ih _).trans ?_;refine((Fu q k S).append_right l).trans ?_;simpa using (List.perm_middle (a:=k) (l₁:=S) (l₂:=l)).symm
def agr{α:Type}(q:α->Int)(l:List α):l6 q (gF q l):=by
 suffices H:∀(l S:List α),l6 q S->l6 q (l.foldl (λS k=>eE q k S) S) by exact H l [] (by simp[l6])
 intro l;induction l with
 |nil=>intro S h;simpa using h
 |cons k l ih=>intro S h;rw[nE];exact ih _ (KR h)
def RD{α:Type}{q:α->Int}{k:α}:∀{l r:List α},(∀x∈l,q x<=q k)->eE q k (l++r)=l++eE q k r
 |[],r,_=>rfl
 |x::l,r,h=>by have h1:=h x (bq ..);rw[fR,eE,aC (by omega),RD λy hy=>h y (bO _ hy)];rfl
def RE{α:Type}{q:α->Int}{k:α}{l:List α}(h:∀x∈l,q k<q x):eE q k l=k::l:=by
 cases l with
 |nil=>rfl
 |cons x l=>rw[eE,au (h x (bq ..))]
def jA{α:Type}(q:α->Int)(k:α)(g:List α×Bool)(x:α):List α×Bool:=
 (if g.2=false/\q k<q x then g.1++[k,x] else g.1++[x],g.2||decide (q k<q x))
def Ft{α:Type}(k:α)(g:List α×Bool):List α:=if g.2=true then g.1 else g.1++[k]
def adf{α:Type}(q:α->Int)(k:α)(l:List α)(out:List α):Ft k (l.foldl (jA q k) (out,false))=out++eE q k l:=by
 have H:∀(l out:List α),l.foldl (jA q k) (out,true)=(out++l,true):=by
  intro l;induction l with
  |nil=>intro out;simp
  |cons x l ih=>intro out;rw[nE];simp only[jA,NM,false_and,dQ,Bool.true_or];rw[ih];simp
 induction l generalizing out with
 |nil=>simp[Ft,eE]
 |cons x l ih=>
  rw[nE];unfold eE;by_cases g:q k<q x;·simp only[jA,g,yX,cY,decide_true,Bool.or_true];rw[H];simp[Ft]
  ·simp only[jA,g,and_false,dQ,NI,Bool.or_false];rw[ih];simp
def w8{α:Type}(q:α->Int)(k:α):List α->List α->List α
 |[],done=>k::done
 |x::rev,done=>if q k<q x then w8 q k rev (x::done) else (x::rev).reverse++k::done
def RG{α:Type}{q:α->Int}{k:α}:∀(rev done:List α),l6 q rev.reverse->(∀x∈done,q k<q x)->w8 q k rev done=eE q k (rev.reverse++done)
 |[],done,_,h=>by simp[w8,RE h]
 |x::rev,done,ho,h=>by
  have e:(x::rev).reverse=rev.reverse++[x]:=by simp
  have ho':=ho;rw[e] at ho';unfold l6 at ho';rw[s7] at ho';unfold w8;split
  ·rename_i g
   rw[RG rev (x::done) ho'.1 (λy hy=>by
    rcases b9.1 hy with rfl|hy;·exact g
    ·exact h y hy)]
   simp
  ·rename_i g
   rw[RD (λy hy=>by
    rw[e] at hy;rcases dO.1 hy with hy|hy;·have:=ho'.2.2 y hy x (by simp);omega
    ·simp at hy;subst hy;omega),RE h]
end M
namespace M
open Go
structure zh (S:Int) (l:List Kp):Prop where
 k:∀x∈l,dx x.obj=true/\(5<=x.at_/\x.at_<=19)/\1<=x.seq/\x.seq<S
 p:l.Pairwise λx y=>x.at_≠y.at_/\x.seq<y.seq
def adE(S:Int)(l:List Kp):p7 S l=true↔∀i (h:i<l.length),dx l[i].obj=true/\(5<=l[i].at_/\l[i].at_<=19)/\(∀y∈l.take i,¬y.at_=l[i].at_)/\jY l i<l[i].seq/\l[i].seq<S:=by
 unfold p7;rw[ff];constructor
 ·intro H i h
  have hm:(l[i],i)∈l.zipIdx:=by
   have:(l.zipIdx)[i]'(by simpa using h)=(l[i],i):=by simp
   rw[<-this];exact cy _
  have:=H _ hm;simp only[pV,az,aY,ff] at this;exact⟨this.1.1.1.1,this.1.1.1.2,this.1.1.2,this.1.2,this.2⟩
 ·intro H x hx;obtain⟨i,hi,rfl⟩:=vO hx;have hl:i<l.length:=by simpa using hi
  have:=H i hl;simp only[List.getElem_zipIdx,pV,az,aY,ff,mC];exact⟨⟨⟨⟨this.1,this.2.1⟩,this.2.2.1⟩,this.2.2.2.1⟩,this.2.2.2.2⟩
def FL{S:Int}{l:List Kp}:p7 S l=true↔zh S l:=by
 rw[adE];constructor
 ·intro H
  have up:∀j (hj:j<l.length) i (hi:i<j),l[i].seq<l[j].seq:=by
   intro j;induction j with
   |zero=>intro hj i hi;omega
   |succ j ih=>
    intro hj i hi;have h1:=(H (j+1) hj).2.2.2.1;rw[BF l j (by omega)] at h1;rcases gI i j with h|h;·have:=ih (by omega) i h;omega
    ·have:i=j:=by omega
     subst this;exact h1
  refine⟨λx hx=>?_,?_⟩
  ·obtain⟨i,hi,rfl⟩:=vO hx;have h:=H i hi;refine⟨h.1,h.2.1,?_,h.2.2.2.2⟩;cases i with
   |zero=>have:=h.2.2.2.1;simp[jY] at this;omega
   |succ i=>have h1:=up (i+1) hi 0 (by omega);have h2:=(H 0 (by omega)).2.2.2.1;simp[jY] at h2;omega
  ·rw[qG];intro i j hi hj hij;refine⟨λe=>?_,up j hj i hij⟩;refine(H j hj).2.2.1 l[i] ?_ e;exact U1.2 ⟨i,by omega,rfl⟩
 ·rintro ⟨hk,hp⟩ i h;rw[qG] at hp;have h1:=hk _ (cy h);refine⟨h1.1,h1.2.1,λy hy e=>?_,?_,h1.2.2.2⟩;·obtain⟨j,hj,rfl⟩:=U1.1 hy;exact(hp j i (by omega) h (by omega)).1 e
  ·cases i with
   |zero=>simp[jY];omega
   |succ i=>rw[BF l i (by omega)];exact(hp i (i+1) (by omega) h (by omega)).2
end M
namespace M
open Go
end M
namespace Go.Proofs
structure qN where
 p:ByteArray
 a1:Option Addr
 l1:Nat
 c1:Nat
 a2:Option Addr
 l2:Nat
 c2:Nat
 s:Int
 a3:Option Addr
 l3:Nat
 c3:Nat
 b:ByteArray
 t:Int
 k:Int
 q:Int
def qN.v(e:qN):Nat->Value
 |0=>.string e.p
 |1=>.slice e.a1 e.l1 e.c1
 |2=>.slice e.a2 e.l2 e.c2
 |3=>.int .i64 e.s
 |4=>.slice e.a3 e.l3 e.c3
 |5=>.string e.b
 |6=>.int .i64 e.t
 |7=>.int .i64 e.k
 |_=>.int .i64 e.q
def qN.ob(e:qN):Array Value:= #[.string e.p,.slice e.a1 e.l1 e.c1,.slice e.a2 e.l2 e.c2,.int .i64 e.s,.slice e.a3 e.l3 e.c3,.string e.b,.int .i64 e.t]
def qN.kp(e:qN):Array Value:= #[.string e.p,.slice e.a1 e.l1 e.c1,.slice e.a2 e.l2 e.c2,.int .i64 e.s,.slice e.a3 e.l3 e.c3,.string e.b,.int .i64 e.t,.int .i64 e.k,.int .i64 e.q]
def qN.z:qN:=⟨⟨#[]⟩,none,0,0,none,0,0,0,none,0,0,⟨#[]⟩,0,0,0⟩
end Go.Proofs
namespace M
open Go Go.RowKit Go.Proofs
end M
