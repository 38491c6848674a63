/- What the functions come to in the machine; no conditions. -/
import Derived.Test.YtcibpfbfblmedaaGreatDoorCona
set_option linter.defProp false
set_option linter.unusedSectionVars false
set_option linter.unusedVariables false
set_option linter.unusedSimpArgs false
set_option maxHeartbeats 8000000
namespace M
open Go
variable [Fd]
def Vx(c:Ca)(d:De)(h:gR c.au=true)(hn:bI c.now)(hc:bh c<=16777216)(hr:aL d.resp<=10000000):ev LI TT 36 [.ptr .own (aJ .own c),.agg (jP .af d)]=some (.int .i64 (ya c d.a d.resp).2,[.ptr .own (aJ .own (ya c d.a d.resp).1),.dead]):=by
 rw[aF (b:=nP) (rs:=[.t 4]) (n:=2) rfl rfl];have jV:=fH c;have jy:=bC (w:=bM) c.aD;have hl3:=bC (w:=gU) c.seen;unfold ya;have u1:=tM d.resp (by omega);try simp at u1
 have u2:=MW c d.a (by omega);try simp at u2
 have u3:=oz d.resp (by have:=ye d.resp;omega);try simp at u3
 cases g1:eZ d.resp<;>rw[g1] at u1;·simp -implicitDefEqProofs [nP,oP,oQ,oR,oS,oT,oU,oV,oW,u1]
 rw[aq rfl];cases g:mD c d.a with
 |none=>rw[g] at u2;simp at u2;simp -implicitDefEqProofs [nP,oP,oQ,oR,oS,oT,oU,oV,oW,u1,u2]
 |some f=>
 rw[g] at u2;simp at u2;simp only;by_cases g2:1495<=(c.seen.length:Int);·rw[aq (.inl g2)];simp -implicitDefEqProofs [nP,oP,oQ,oR,oS,oT,oU,oV,oW,u1,u2,g2]
 by_cases g3:1495<=(c.sent.length:Int);·rw[aq (.inr g3)];simp -implicitDefEqProofs [nP,oP,oQ,oR,oS,oT,oU,oV,oW,u1,u2,g2,g3]
 rw[az (by omega)];obtain⟨f0,f1,f2,f3⟩:=wF g;obtain⟨n,hna⟩:∃n:Nat,d.a=n:=⟨d.a.toNat,by omega⟩;rw[hna] at u2 g⊢;rw[hna,pP] at f1 f2;rw[pP];have hm:=iu (w:=bM) f3;have uh:bM f=bg f.q+wL wO f.who+aZ f.old:=rfl;have fX:c.aD[n]=f:=(aQ.1 f2).2;have sn:=Kr c.aD n f f2;have hz:(c.seen.length+1)*120<=140737488355328:=by omega
 have u4:=tN f.q (by have:=uX f.q;omega);have u5:=M3 f.q d.resp c.now (by omega) (by omega);simp at u4
 have hsw:bh (cJ c f.q d.resp)<=bh c+bg f.q+aL d.resp+1:=by
  have e2:bh (cJ c f.q d.resp)=cR c.au+wL bM c.aD+wL gU (c.seen++[⟨f.q,d.resp,c.now⟩])+wL dM c.sent:=rfl;rw[n9] at e2;have e3:wL gU [⟨f.q,d.resp,c.now⟩]=bg f.q+aL d.resp+1:=by simp[wL,gU];omega
  omega
 have v1:=Vy (cJ c f.q d.resp) n f d.resp g h hn (by omega) hr;have v2:=C7 (cJ c f.q d.resp) n f d.resp 2 g (by omega) (by omega);rw[pP] at v1 v2;have zH:=FN (q:=f.q) (r:=d.resp) (t:=c.now);rw[show K6 (cJ c f.q d.resp) n f d.resp=(if mT f.q d.resp c.now=true then iG (dL (cJ c f.q d.resp) (iE c.au (lG f.q d.resp c.now))) n f d.resp 2 else iG (cJ c f.q d.resp) n f d.resp 2) from rfl];generalize lG f.q d.resp c.now=O at*;generalize B2 (cJ c f.q d.resp) n f d.resp=R1 at v1⊢;by_cases g4:d.resp.status=304/\f.gp=true;·rw[aq g4];simp[cJ] at v1;rw[g4.1] at u1 u3 v1;rw[g4.2] at v1;simp -implicitDefEqProofs [nP,oP,oQ,oR,oS,oT,oU,oV,oW,hna,u1,u2,u3,u4,g2,g3,f1,f2,fX,sn,gQ,ghost,kA,gH,oG,lH,X.pfx,hz,cZ,g4.1,g4.2,v1]
 rw[az g4];generalize iG (cJ c f.q d.resp) n f d.resp 2=R2 at v2⊢;simp[cJ] at v2;cases g5:mT f.q d.resp c.now<;>rw[g5] at u5<;>simp at u5
 ·rw[az (by simp)];by_cases g6:d.resp.status=304
  ·have g7:f.gp=false:=by cases y:f.gp with
    |false=>rfl
    |true=>exact absurd ⟨g6,y⟩ g4
   rw[g6] at u1 u3 u5 v2;rw[g7] at v2;simp -implicitDefEqProofs [nP,oP,oQ,oR,oS,oT,oU,oV,oW,hna,u1,u2,u3,u4,u5,g2,g3,f1,f2,fX,sn,gQ,ghost,kA,gH,oG,lH,X.pfx,hz,cZ,g6,g7,v2]
  simp -implicitDefEqProofs [nP,oP,oQ,oR,oS,oT,oU,oV,oW,hna,u1,u2,u3,u4,u5,g2,g3,f1,f2,fX,sn,gQ,ghost,kA,gH,oG,lH,X.pfx,hz,cZ,g6,v2]
 rw[aq rfl];have zH:=zH g5;have g6:¬d.resp.status=304:=by unfold mT uO at g5;simp only[ax,bx] at g5;have:=g5.1.1.1.1.1.1.2;omega
 have v3:=M8 c.au O h (by omega) (by omega);have hkw:=Ft (cJ c f.q d.resp) O;have v4:=C7 (dL (cJ c f.q d.resp) (iE c.au O)) n f d.resp 2 g (by have e:bh (dL (cJ c f.q d.resp) (iE c.au O))=bh (dL (cJ c f.q d.resp) (iE (cJ c f.q d.resp).au O)):=rfl;omega) (by omega);rw[pP] at v4;generalize iE c.au O=S at v3 v4⊢;generalize iG (dL (cJ c f.q d.resp) S) n f d.resp 2=R3 at v4⊢;simp[dL,cJ] at v3 v4;simp -implicitDefEqProofs [nP,u1,u2,u3,hna,u1,u2,u3,u4,u5,g2,g3,f1,f2,fX,sn,gQ,ghost,kA,gH,oG,lH,X.pfx,hz,cZ,g6,v3,v4,oP,oQ,oR,oS,oT,oU,oV,oW];all_goals (repeat' split)<;>first|rfl|omega|(simp_all;done)|(simp_all;omega)|skip
end M
set_option maxHeartbeats 4000000
namespace M
open Go
variable [Fd]
def SI{α:Type}(w:α->Nat):∀(l:List α) (i:Nat),wL w (l.eraseIdx i)<=wL w l
 |[],i=>by simp
 |a::l,0=>by simp[wL];omega
 |a::l,i+1=>by have:=SI w l i;simp[wL] at this⊢;omega
def SK{α β:Type}(w:β->Nat)(g:α->β)(m:Nat)(h:∀a,w (g a)=m):∀(l:List α),wL w (l.map g)=l.length*(m+1)
 |[]=>by simp[wL]
 |a::l=>by
  have:=SK w g m h l;have e:wL w ((a::l).map g)=w (g a)+wL w (l.map g)+1:=by simp[wL];omega
  rw[e,h,this,cV,Nat.succ_mul];omega
def RI(c:Ca)(k:Int)(q:Rq)(r:aU)(kd:Int):dM (je c k q r kd)=bg q+aL r:=by show bg q+aL r+aZ ez=_;have:aZ ez=0:=rfl;omega
def RH(c:Ca)(k:Int)(q:Rq)(r:aU)(kd:Int):bh (j6 c k q r kd)=bh c+bg q+aL r+1:=by
 have e1:=fH c;have e2:bh (j6 c k q r kd)=cR c.au+wL bM c.aD+wL gU c.seen+wL dM (c.sent++[je c k q r kd]):=rfl;have h:=RI c k q r kd;rw[n9] at e2;have e3:wL dM [je c k q r kd]=dM (je c k q r kd)+1:=by simp[wL];omega
 omega
def BT{c:Ca}{a:Nat}{f:Fl}{r:aU}{kd:Int}(hw:f.who.length<=5):bh (iG c a f r kd)<=bh c+5*(bg f.q+aL r+1):=by have h1:=SI bM c.aD a;have h2:=SK dM (λk=>je c k f.q r kd) (bg f.q+aL r) (λk=>RI c k f.q r kd) f.who;have h3:=ke (bg f.q+aL r+1) hw;have e1:=fH c;have e2:bh (iG c a f r kd)=cR c.au+wL bM (c.aD.eraseIdx a)+wL gU c.seen+wL dM (c.sent++f.who.map λk=>je c k f.q r kd):=rfl;rw[n9,h2] at e2;omega
def aeT(c:Ca)(q:Rq)(r:aU):bh (cJ c q r)=bh c+bg q+aL r+1:=by
 have e1:=fH c;have e2:bh (cJ c q r)=cR c.au+wL bM c.aD+wL gU (c.seen++[⟨q,r,c.now⟩])+wL dM c.sent:=rfl;rw[n9] at e2;have e3:wL gU [⟨q,r,c.now⟩]=bg q+aL r+1:=by simp[wL,gU];omega
 omega
def RP(c:Ca)(s:Sh):bh (dL c s)+cR c.au=bh c+cR s:=by have e1:=fH c;have e2:bh (dL c s)=cR s+wL bM c.aD+wL gU c.seen+wL dM c.sent:=rfl;omega
def OI(c:Ca)(l:List Fl):bh (wG c l)+wL bM c.aD=bh c+wL bM l:=by have e1:=fH c;have e2:bh (wG c l)=cR c.au+wL bM l+wL gU c.seen+wL dM c.sent:=rfl;omega
def WW(c:Ca)(q:Rq):aZ (eE c.au q c.now)<=bh c:=by have:=(WY (s:=c.au) (q:=q) (now:=c.now)).2;have e1:=fH c;omega
def SL{α:Type}(w:α->Nat):∀(l:List α) (i:Nat) (x v:α),l[i]?=some x->wL w (l.set i v)+w x=wL w l+w v
 |[],i,x,v,h=>by simp at h
 |a::l,0,x,v,h=>by simp at h;subst h;simp[wL];omega
 |a::l,i+1,x,v,h=>by have:=SL w l i x v (by simpa using h);simp[wL] at this⊢;omega
def ah0{c:Ca}{k:Int}{q:Rq}{f:Fl}:bh (vk c k q f)<=bh c+bM f+bg q+2:=by
 have hr:∀st,bh (qV c k q st)<=bh c+bg q+1:=λst=>by
  have h:=RH c k q ⟨st,[],[]⟩ 4;have h0:aL ⟨st,[],[]⟩=0:=by simp[aL,wL]
  show bh (j6 c k q ⟨st,[],[]⟩ 4)<=_;omega
 unfold vk;split
 ·rename_i i x hi;obtain⟨_,hi1,_⟩:=rX hi;rw[yG] at hi1;split
  ·have h1:=OI c (c.aD.set i ⟨x.q,x.who++[k],x.old,x.gp⟩);have h2:wL bM (c.aD.set i ⟨x.q,x.who++[k],x.old,x.gp⟩)<=wL bM c.aD+1:=by have h3:=SL bM c.aD i x ⟨x.q,x.who++[k],x.old,x.gp⟩ hi1;have h4:bM x=bg x.q+wL wO x.who+aZ x.old:=rfl;have h5:bM ⟨x.q,x.who++[k],x.old,x.gp⟩=bg x.q+wL wO (x.who++[k])+aZ x.old:=rfl;rw[n9] at h5;have h6:wL wO [k]=1:=rfl;omega
   omega
  ·have:=hr 503;omega
 ·split;·have:=hr 503;omega
  ·have h1:=OI c (c.aD++[f]);rw[n9] at h1;have e3:wL bM [f]=bM f+1:=by simp[wL];omega
   omega
def W4(c:Ca)(d:De)(h:nB c=true)(hc:bh c<=16000000)(hq:bg d.q<=1100000)(hr:aL d.resp<=10000000)(hb:bK d.ia<=10000000):bh (kX c d).1<=1073741824:=by
 have P:=Np.1 h;have jV:=fH c;have jz:cR c.au=dA c.au.bp+wL dm c.au.aG+wL bK c.au.aW:=rfl;unfold kX;split
 ·unfold vQ;split
  ·split;·simp only;omega
   ·split
    ·unfold BX;have h1:=RH (dL c (mj c.au (nX d.q.path c.now))) d.client d.q ⟨if p6 c.au (nX d.q.path c.now)=true then 200 else 503,[],[]⟩ 4;have h0:∀st,aL ⟨st,[],[]⟩=0:=λst=>by simp[aL,wL]
     rw[h0] at h1;have h2:=RP c (mj c.au (nX d.q.path c.now));have h3:=MK c.au (nX d.q.path c.now);have h4:bK (nX d.q.path c.now)=d.q.path.length+0:=rfl;have h5:bg d.q=d.q.path.length+wL aN d.q.fields+d.q.body.length:=rfl;show bh (j6 (dL c (mj c.au (nX d.q.path c.now))) d.client d.q ⟨if p6 c.au (nX d.q.path c.now)=true then 200 else 503,[],[]⟩ 4)<=_;omega
    ·have ho:=WW c d.q;unfold GY;split
     ·have e2:bh (zP c d.client d.q (eE c.au d.q c.now))=cR c.au+wL bM c.aD+wL gU c.seen+wL dM (c.sent++[wN c d.client d.q (eE c.au d.q c.now)]):=rfl;rw[n9] at e2;have e3:wL dM [wN c d.client d.q (eE c.au d.q c.now)]=dM (wN c d.client d.q (eE c.au d.q c.now))+1:=by simp[wL];omega
      have e4:dM (wN c d.client d.q (eE c.au d.q c.now))=bg d.q+aL (answer d.q (eE c.au d.q c.now) c.now)+aZ (eE c.au d.q c.now):=rfl;have e5:=GW d.q (eE c.au d.q c.now) c.now;have e6:aZ (eE c.au d.q c.now)=(eE c.au d.q c.now).path.length+wL wS (eE c.au d.q c.now).names+wL wS (eE c.au d.q c.now).values+aL (eE c.au d.q c.now).resp:=rfl;simp only;omega
     ·have h1:=ah0 (c:=c) (k:=d.client) (q:=d.q) (f:=⟨d.q,[d.client],eE c.au d.q c.now,decide (iz c.au d.q c.now=3)⟩);have h2:bM ⟨d.q,[d.client],eE c.au d.q c.now,decide (iz c.au d.q c.now=3)⟩=bg d.q+wL wO [d.client]+aZ (eE c.au d.q c.now):=rfl;have h3:wL wO [d.client]=1:=rfl;simp only;omega
  ·simp only;omega
 split
 ·unfold ya;split
  ·split;·simp only;omega
   ·rename_i f hf;obtain⟨f0,f1,f2,f3⟩:=wF hf;have hw:=(P.q f f3).2.1.2;have hm:=iu (w:=bM) f3;have uh:bM f=bg f.q+wL wO f.who+aZ f.old:=rfl;have how:aZ f.old=f.old.path.length+wL wS f.old.names+wL wS f.old.values+aL f.old.resp:=rfl;have hs:=aeT c f.q d.resp;split;·simp only;omega
    ·split
     ·have hmw:=QA f.old.resp d.resp;unfold B2;split;·rename_i hB;unfold KR at hB;simp only[ax] at hB;have hO:aZ (kP (cJ c f.q d.resp) f d.resp)<=1300:=FN hB.1;have hk:=Ft (cJ c f.q d.resp) (kP (cJ c f.q d.resp) f d.resp);have ha:=GW f.q (kP (cJ c f.q d.resp) f d.resp) (cJ c f.q d.resp).now;have hOo:aZ (kP (cJ c f.q d.resp) f d.resp)=(kP (cJ c f.q d.resp) f d.resp).path.length+wL wS (kP (cJ c f.q d.resp) f d.resp).names+wL wS (kP (cJ c f.q d.resp) f d.resp).values+aL (kP (cJ c f.q d.resp) f d.resp).resp:=rfl;have:=BT (c:=dL (cJ c f.q d.resp) (iE (cJ c f.q d.resp).au (kP (cJ c f.q d.resp) f d.resp))) (a:=d.a.toNat) (r:=answer f.q (kP (cJ c f.q d.resp) f d.resp) (cJ c f.q d.resp).now) (kd:=3) hw;simp only;omega
      ·have:=BT (c:=cJ c f.q d.resp) (a:=d.a.toNat) (r:=merge f.old.resp d.resp) (kd:=3) hw;simp only;omega
     ·unfold K6;split;·rename_i hB;have hO:=FN hB;have hk:=Ft (cJ c f.q d.resp) (lG f.q d.resp (cJ c f.q d.resp).now);have:=BT (c:=dL (cJ c f.q d.resp) (iE (cJ c f.q d.resp).au (lG f.q d.resp (cJ c f.q d.resp).now))) (a:=d.a.toNat) (r:=d.resp) (kd:=2) hw;simp only;omega
      ·have:=BT (c:=cJ c f.q d.resp) (a:=d.a.toNat) (r:=d.resp) (kd:=2) hw;simp only;omega
  ·simp only;omega
 split
 ·unfold wz;split;·simp only;omega
  ·rename_i f hf;obtain⟨f0,f1,f2,f3⟩:=wF hf;have hw:=(P.q f f3).2.1.2;have hm:=iu (w:=bM) f3;have uh:bM f=bg f.q+wL wO f.who+aZ f.old:=rfl;split;·simp only;omega
   ·have h1:=BT (c:=c) (a:=d.a.toNat) (r:=⟨504,[],[]⟩) (kd:=4) hw;have h0:aL ⟨504,[],[]⟩=0:=by simp[aL,wL]
    simp only;omega
 split
 ·unfold yo;split;·have e:bh ⟨c.au,c.aD,c.now+d.a,c.seen,c.sent⟩=bh c:=rfl;simp only;omega
  ·simp only;omega
 split;·unfold vS;have h2:=RP c (mj c.au (vR d.ia c.now));have h3:=MK c.au (vR d.ia c.now);have h4:bK (vR d.ia c.now)=bK d.ia:=rfl;simp only;omega
 split;·have h1:=H6 c.au.bp;have e2:bh (HJ c (iR c.au.bp))=(dA (iR c.au.bp)+wL dm c.au.aG+wL bK c.au.aW)+wL bM c.aD+wL gU c.seen+wL dM c.sent:=rfl;simp only;omega
 ·have h1:=NM c.au.bp d.keep;have h2:=acw (nE c.au.bp d.keep);have e2:bh (HC c d.keep)=cR (xR (nE c.au.bp d.keep))+0+wL gU c.seen+wL dM c.sent:=rfl;simp only;omega
end M
set_option maxHeartbeats 8000000
namespace M
open Go
variable [Fd]
def Vs(c:Ca)(d:De)(h:nB c=true)(hc:bh c<=16000000)(hq:bg d.q<=1100000)(hr:aL d.resp<=10000000)(hb:bK d.ia<=10000000)(hkp:d.keep.length<=9223372036854775807)(hk:1<=d.kind/\d.kind<=7):ev LI TT 19 [.ptr .own (aJ .own c),.agg (jP .af d)]=some (.int .i64 (kX c d).2,[.ptr .own (aJ .own (kX c d).1),.dead]):=by
 rw[aF (b:=oM) (rs:=[.t 4]) (n:=2) rfl rfl];have jV:=fH c;have P:=Np.1 h;have hn:bI c.now:=by have:=P.n;unfold bI;omega
 have hdk:=(KW P.s).d;have jz:cR c.au=dA c.au.bp+wL dm c.au.aG+wL bK c.au.aW:=rfl;unfold kX;by_cases g1:d.kind=1;·rw[aq g1];have u:=Vq c d P.s hn (by omega) hq;generalize vQ c d.client d.q=R at u⊢;simp[g1] at u;simp -implicitDefEqProofs [oM,oN,oO,g1,u]
 rw[az g1];by_cases g2:d.kind=2;·rw[aq g2];have u:=Vx c d P.s hn (by omega) hr;generalize ya c d.a d.resp=R at u⊢;simp[g2] at u;simp -implicitDefEqProofs [oM,oN,oO,g2,u]
 rw[az g2];by_cases g3:d.kind=3;·rw[aq g3];have u:=Vt c d.a (by omega);generalize wz c d.a=R at u⊢;simp at u;simp -implicitDefEqProofs [oM,oN,oO,g3,u]
 rw[az g3];by_cases g4:d.kind=4;·rw[aq g4];have u:=Vz c d.a P.n;generalize yo c d.a=R at u⊢;simp at u;simp -implicitDefEqProofs [oM,oN,oO,g4,u]
 rw[az g4];by_cases g5:d.kind=5;·rw[aq g5];have u:=Vr c d.ia P.s (by omega) hb;generalize vS c d.ia=R at u⊢;simp at u;simp -implicitDefEqProofs [oM,oN,oO,g5,u]
 rw[az g5];by_cases g6:d.kind=6;·rw[aq g6];have u:=Hi c.au.bp hdk;generalize iR c.au.bp=D at u⊢;simp at u;simp -implicitDefEqProofs [oM,oN,oO,g6,u,HJ,dL]
 rw[az g6];have g7:d.kind=7:=by omega
 have u1:=VD c.au.bp d.keep hdk hkp;have u2:=Wc (nE c.au.bp d.keep) (WS d.keep hdk) (by have:=NM c.au.bp d.keep;omega);unfold HC;generalize xR (nE c.au.bp d.keep)=S at u2⊢;generalize nE c.au.bp d.keep=D at u1 u2;simp at u1 u2;simp -implicitDefEqProofs [oM,g7,u1,u2,oN,oO,oN,oO];all_goals (repeat' split)<;>first|rfl|omega|(simp_all;done)|(simp_all;omega)|skip
def Vn(c:Ca)(d:De)(hc:bh c<=16000000)(hq:bg d.q<=1100000)(hr:aL d.resp<=10000000)(hb:bK d.ia<=10000000)(hkp:d.keep.length<=9223372036854775807):ev LI TT 8 [.agg (aJ .af c),.agg (jP .af d)]=some (.aj [.agg (aJ .own (if 1<=d.kind/\d.kind<=7/\nB c=true then (kX c d).1 else Gt)),.int .i64 (if 1<=d.kind/\d.kind<=7/\nB c=true then (kX c d).2 else 1)],[.dead,.dead]):=by
 rw[aF (b:=wY) (rs:=[.c 4 10 true 42,.t 5]) (n:=2) rfl rfl];have u1:=Vp c (by omega);try simp at u1
 have u2:=Ni c (by omega);try simp at u2
 by_cases g1:1<=d.kind/\d.kind<=7;rotate_left;·rw[az (λx=>g1 ⟨x.1,x.2.1⟩),az (λx=>g1 ⟨x.1,x.2.1⟩)];simp -implicitDefEqProofs [wY,g1,Gt]
 cases g2:nB c<;>rw[g2] at u1;·rw[az (by simp),az (by simp)];simp -implicitDefEqProofs [wY,g1,u1,Gt]
 rw[aq ⟨g1.1,g1.2,rfl⟩,aq ⟨g1.1,g1.2,rfl⟩];have v1:=Vs c d g2 hc hq hr hb hkp g1;have v2:=Ni (kX c d).1 (W4 c d g2 hc hq hr hb);generalize kX c d=R at v1 v2⊢;simp at v1 v2;simp -implicitDefEqProofs [wY,u1,u2,g1,v1,v2];all_goals (repeat' split)<;>first|rfl|omega|(simp_all;done)|(simp_all;omega)|skip
end M
set_option maxHeartbeats 4000000
namespace M
open Go
variable [Fd]
noncomputable def aeF(p:Ca×List Int)(d:De):Ca×List Int:=if 1<=d.kind/\d.kind<=7 then ((kX p.1 d).1,p.2++[(kX p.1 d).2]) else (p.1,p.2++[1])
noncomputable def aeE(c:Ca)(l:List De):Ca×List Int:=l.foldl aeF (c,[])
structure CL (d:De):Prop where
 q:bg d.q<=1100000
 r:aL d.resp<=10000000
 b:bK d.ia<=10000000
 k:d.keep.length<=9223372036854775807
structure aiD (c:Ca) (l:List De):Prop where
 d:∀x∈l,CL x
 w:∀i,i<=l.length->bh (aeE c (l.take i)).1<=16000000
end M
set_option maxHeartbeats 4000000
namespace M
open Go
variable [Fd]
def tQ:Rq:=⟨1,[47,112],[⟨[108,97,110,103],[100,101]⟩],[]⟩
def n8(i:Int):De:=⟨1,i,tQ,0,⟨0,[],[]⟩,⟨0,[],[],0⟩,[]⟩
def tR:aU:=⟨200,[⟨[99,97,99,104,101,45,99,111,110,116,114,111,108],[109,97,120,45,97,103,101,61,57]⟩],[98]⟩
def ym:De:=⟨2,0,⟨0,[],[],[]⟩,0,tR,⟨0,[],[],0⟩,[]⟩
noncomputable def vb(c:Ca)(d:De):Ca:=if 1<=d.kind/\d.kind<=7/\nB c=true then (kX c d).1 else Gt
noncomputable def F7(c:Ca)(d:De):Int:=if 1<=d.kind/\d.kind<=7/\nB c=true then (kX c d).2 else 1
noncomputable def tC:Nat->Ca
 |0=>vZ
 |i+1=>vb (tC i) (n8 i)
noncomputable def tD(n:Nat):Ca:=vb (tC n) ym
noncomputable def tE(n:Nat):Ca:=vb (tD n) (n8 99)
def tA(i:Nat)(h:i<5):F7 (tC i) (n8 i)=0:=by revert i;decide+kernel
def tB(i:Nat)(h:i<6):bh (tC i)<=1000000:=by revert i;decide+kernel
def tG(n:Nat)(h:n<6)(h0:0<n):(tC n).aD.length=1/\(tC n).sent.length=0/\((tC n).aD.flatMap (λx=>x.who)).length=n/\F7 (tC n) ym=0/\bh (tD n)<=1000000/\F7 (tD n) (n8 99)=0/\bh (tE n)<=1000000/\(tE n).seen.length=1:=by revert n;decide+kernel
def tH(n:Nat)(h:n<6)(h0:0<n):(tE n).sent.foldl uY (0,0)=(1,(n:Int))/\((tE n).sent[n]?.map λx=>x.kind)=some 1/\∀i:Nat,i<n->KU (tE n) i=true/\(B3 (tE n) i).status=200/\(B3 (tE n) i).body=[98]:=by revert n;decide+kernel
def Sb(i:Int):CL (n8 i):=⟨(by decide:bg tQ<=1100000),(by decide:aL (⟨0,[],[]⟩:aU)<=10000000),(by decide:bK (⟨0,[],[],0⟩:Bn)<=10000000),(by decide:([]:List Bool).length<=9223372036854775807)⟩
def tRW:CL ym:=⟨by decide,by decide,by decide,by decide⟩
def tU(c:Ca)(d:De)(hc:bh c<=1000000)(hd:CL d):ev LI TT 8 [.agg (aJ .af c),.agg (jP .af d)]=some (.aj [.agg (aJ .own (vb c d)),.int .i64 (F7 c d)],[.dead,.dead]):=
 Vn c d (by omega) hd.q hd.r hd.b hd.k
def Sf(n i:Nat)(hn:n<=5)(hi:i<n)(m:Md)(hm:m=.own\/m=.sl):aA (ev LI TT) (aB TT) uM [(3,.int .i64 n),(4,.ptr .own (dy m tQ)),(5,.ptr .own (aJ m (tC i))),(6,.int .i64 i)]=some (.normal,[(3,.int .i64 n),(4,.ptr .own (dy .sl tQ)),(5,.ptr .own (aJ .sl (tC (i+1)))),(6,.int .i64 ((i:Int)+1))]):=by have u:=tU (tC i) (n8 i) (tB i (by omega)) (Sb i);rw[tA i (by omega),show vb (tC i) (n8 i)=tC (i+1) from rfl] at u;generalize tC (i+1)=c' at u⊢;generalize tC i=c at u⊢;have hw:=cw i (by omega);simp[n8,tQ] at u;rcases hm with rfl|rfl<;>simp -implicitDefEqProofs [uM,J8,tQ,u,hw,hi,ghost,kA,gH,oG,lH,X.pfx,gQ]
def tX0(n:Nat):aA (ev LI TT) (aB TT) uM [(3,.int .i64 n),(4,.ptr .own (dy .sl tQ)),(5,.ptr .own (aJ .sl (tC n))),(6,.int .i64 n)]=some (.exit 0,[(3,.int .i64 n),(4,.ptr .own (dy .sl tQ)),(5,.ptr .own (aJ .sl (tC n))),(6,.int .i64 n),(29,.bool false)]):=by generalize tC n=c;simp -implicitDefEqProofs [uM,J8,tQ]
def Sc(n:Nat)(hn:n<=5):∀(k i:Nat),i+k=n->aX (aA (ev LI TT) (aB TT) uM) [(3,.int .i64 n),(4,.ptr .own (dy .sl tQ)),(5,.ptr .own (aJ .sl (tC i))),(6,.int .i64 i)]=some (.exit 0,[(3,.int .i64 n),(4,.ptr .own (dy .sl tQ)),(5,.ptr .own (aJ .sl (tC n))),(6,.int .i64 n),(29,.bool false)])
 |0,i,h=>by
  obtain rfl:i=n:=by omega
  rw[eP,tX0];rfl
 |k+1,i,h=>by rw[eP,Sf n i hn (by omega) .sl (.inr rfl)];exact Sc n hn k (i+1) (by omega)
def tM0(n:Nat)(hn:n<=5)(h0:0<n):aX (aA (ev LI TT) (aB TT) uM) [(3,.int .i64 n),(4,.ptr .own (dy .own tQ)),(5,.ptr .own (aJ .own vZ)),(6,.int .i64 0)]=some (.exit 0,[(3,.int .i64 n),(4,.ptr .own (dy .sl tQ)),(5,.ptr .own (aJ .sl (tC n))),(6,.int .i64 n),(29,.bool false)]):=by have e:=Sf n 0 hn h0 .own (.inl rfl);rw[show tC 0=vZ from rfl] at e;rw[eP];erw [e];exact Sc n hn (n - 1) (0+1) (by omega)
def tS1(n i:Nat)(hn:n<=5)(hi:i<n)(h0:0<n):aA (ev LI TT) (aB TT) xI [(3,.int .i64 n),(5,.ptr .own (aJ .own (tE n))),(12,.int .i64 i)]=some (.normal,[(3,.int .i64 n),(5,.ptr .own (aJ .own (tE n))),(12,.int .i64 ((i:Int)+1))]):=by obtain⟨g1,g2,g3⟩:=(tH n (by omega) h0).2.2 i hi;have u:=VP (tE n) i (by have:=(tG n (by omega) h0).2.2.2.2.2.2.1;omega);rw[g1] at u;generalize B3 (tE n) i=r at u g2 g3;generalize tE n=c at u⊢;have hw:=cw i (by omega);simp at u;simp -implicitDefEqProofs [xI,J9,u,hw,hi,g2,g3]
def tX1(n:Nat):aA (ev LI TT) (aB TT) xI [(3,.int .i64 n),(5,.ptr .own (aJ .own (tE n))),(12,.int .i64 n)]=some (.exit 2,[(3,.int .i64 n),(5,.ptr .own (aJ .own (tE n))),(12,.int .i64 n),(91,.bool false)]):=by generalize tE n=c;simp -implicitDefEqProofs [xI,J9]
def Sd(n:Nat)(hn:n<=5)(h0:0<n):∀(k i:Nat),i+k=n->aX (aA (ev LI TT) (aB TT) xI) [(3,.int .i64 n),(5,.ptr .own (aJ .own (tE n))),(12,.int .i64 i)]=some (.exit 2,[(3,.int .i64 n),(5,.ptr .own (aJ .own (tE n))),(12,.int .i64 n),(91,.bool false)])
 |0,i,h=>by
  obtain rfl:i=n:=by omega
  rw[eP,tX1];rfl
 |k+1,i,h=>by rw[eP,tS1 n i hn (by omega) h0];exact Sd n hn h0 k (i+1) (by omega)
def ala(code:List UInt8)(k:code.length<=9223372036854775807/\∀b∈code,True):∃ps,ev LI TT 3 [.row .sl 1 (code.map eU)]=some (.bool true,ps):=by
 rw[aF (b:=BB) (rs:=[.t 2]) (n:=1) rfl rfl];have h1:=Wi code;by_cases hbig:1048576<code.length;·simp -implicitDefEqProofs [BB,h1,hbig]
 obtain⟨a,ha,u2⟩:=Wh code (by omega);obtain⟨n,hn⟩:∃n:Nat,n=1+a%5:=⟨_,rfl⟩;have ht:(a:Int).tmod 5=((a%5:Nat):Int):=by rw[GA (by omega)];omega
 have hw1:IntKind.i64.wrap (((a%5:Nat)):Int)=((a%5:Nat):Int):=dN (by omega) (by omega);have dW:IntKind.i64.wrap (1+((a%5:Nat):Int))=(n:Int):=by rw[dN (by omega) (by omega)];omega
 have sw:IntKind.i64.wrap (1+(a:Int)%5)=(n:Int):=by rw[dN (by omega) (by omega)];omega
 have PD:n<=5:=by omega
 have h0:0<n:=by omega
 have u3:=Vo;have u4:=tM0 n PD h0;obtain⟨a1,a2,a3,a4,a5,a6,a7,a8⟩:=tG n (by omega) h0;obtain⟨b1,b2,b3⟩:=tH n (by omega) h0;have u5:=V3 (tC n) (by have:=tB n (by omega);omega);have u6:=tU (tC n) ym (tB n (by omega)) tRW;have u7:=tU (tD n) (n8 99) a5 (Sb 99);rw[a4,show vb (tC n) ym=tD n from rfl] at u6;rw[a6,show vb (tD n) (n8 99)=tE n from rfl] at u7;have u8:=Sd n PD h0 n 0 (by omega);have u9:=VQ (tE n) (by omega);rw[b1] at u9
 have hl:n<(tE n).sent.length:=by
  rcases fN n (tE n).sent.length with h|h;·exact h
  ·rw[iL h] at b2;cases b2
 rw[cm hl] at b2;simp only[cC,dr] at b2;generalize (tC n).aD.flatMap (λx=>x.who)=ws at a3 u5;generalize tC n=c at*;generalize tD n=d at*;generalize tE n=e at*;generalize vZ=c0 at*;simp[tQ] at u4;simp[n8,ym,tQ,tR] at u6 u7;simp at u3 u5 u8 u9;simp -implicitDefEqProofs [BB,h1,hbig,u2,ht,hw1,dW,sw,u3,u4,u5,u6,u7,u8,u9,ghost,kA,gH,oG,lH,X.pfx,gQ,a1,a2,a3,a8,hl,b2]
end M
