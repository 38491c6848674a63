/- What the functions come to in the machine; no conditions. -/
import Derived.Test.YteibmljflfeljaaGreatDoorCona
import Derived.Test.YteibmljflfeljaaGreatDoorMc
set_option linter.defProp false
set_option linter.unusedSectionVars false
set_option linter.unusedVariables false
set_option linter.unusedSimpArgs false
set_option maxHeartbeats 4000000
namespace M
open Go
def Pz(n:Nat)(hn:n<=1073741824):∀(R S:List Kp),mV Kp.seq S->S.length+R.length=n->
  aI (ak (ev LI TT) (aq TT) wu) [(0,.ref 100000 []),(1,.int .i64 0),(2,.int .i64 n),(3,.fn 152 []),(8,.int .i64 (S.length:Nat)),(100000,.row .own 9 ((S++R).map (aj .own)))]=some (.exit 0,[(0,.ref 100000 []),(1,.int .i64 0),(2,.int .i64 n),(3,.fn 152 []),(8,.int .i64 n),(14,.bool false),(100000,.row .own 9 ((R.foldl (λS k=>eH Kp.seq k S) S).map (aj .own)))])
 |[],S,ho,hl=>by
  have:S.length=n:=by simpa using hl
  subst this;rw[cW];simp -implicitDefEqProofs [wu,Ja]
 |k::R,S,ho,hl=>by
  simp only[cw] at hl;have hlt:S.length<n:=by omega
  have hw:=aU S.length (by omega);obtain⟨j,hj⟩:=Py n (S.length:Nat) k R S.reverse [] (by simp;omega);rw[Tj S.reverse [] (by simpa using ho) (by simp)] at hj;have e1:S.reverse.reverse++k::([]++R)=S++k::R:=by simp
  have e2:S.reverse.reverse++[]=S:=by simp
  rw[e1,e2,Jy] at hj
  have hstep:ak (ev LI TT) (aq TT) wu [(0,.ref 100000 []),(1,.int .i64 0),(2,.int .i64 n),(3,.fn 152 []),(8,.int .i64 (S.length:Nat)),(100000,.row .own 9 ((S++k::R).map (aj .own)))]=some (.normal,[(0,.ref 100000 []),(1,.int .i64 0),(2,.int .i64 n),(3,.fn 152 []),(8,.int .i64 ((eH Kp.seq k S).length:Nat)),(100000,.row .own 9 ((eH Kp.seq k S++R).map (aj .own)))]):=by
   rw[Ti];try simp at hj
   simp -implicitDefEqProofs [wu,Ja,hlt,hw,hj]
  rw[cW,hstep];exact Pz n hn R (eH Kp.seq k S) (L5 ho) (by rw[Ti];omega)
def Z8(l:List Kp)(hb:l.length<=1073741824):ev LI TT 206 [.row .own 9 (l.map (aj .own)),.int .i64 0,.int .i64 l.length,.fn 152 []]=some (.av [],[.row .own 9 ((gO Kp.seq l).map (aj .own)),.dead,.dead,.dead]):=by
 rw[au (b:=DI) (rs:=[]) (n:=4) rfl rfl];cases l with
 |nil=>
  have h:aI (ak (ev LI TT) (aq TT) wu) [(0,.ref 100000 []),(1,.int .i64 0),(2,.int .i64 0),(3,.fn 152 []),(8,.int .i64 1),(100000,.row .own 9 [])]=some (.exit 0,[(0,.ref 100000 []),(1,.int .i64 0),(2,.int .i64 0),(3,.fn 152 []),(8,.int .i64 1),(14,.bool false),(100000,.row .own 9 [])]):=by rw[cW];simp -implicitDefEqProofs [wu,Ja]
  have h1:IntKind.i64.wrap 1=1:=bO (by omega) (by omega);simp -implicitDefEqProofs [DI,h,h1,gO]
 |cons a l=>
 have h:=Pz (a::l).length hb l [a] (by simp[mV]) (by simp;omega);have h1:IntKind.i64.wrap 1=1:=bO (by omega) (by omega);have e:gO Kp.seq (a::l)=l.foldl (λS k=>eH Kp.seq k S) [a]:=rfl;rw[e];generalize l.foldl (λS k=>eH Kp.seq k S) [a]=Z at h⊢;try simp at h
 simp -implicitDefEqProofs [DI,h,h1,wv,zA,wz,zC,zE];all_goals (repeat' split)<;>first|rfl|omega|simp_all<;>omega|skip
def Z9(l:List Kp)(hb:l.length<=15):ev LI TT 181 [.row .own 9 (l.map (aj .own)),.int .i64 l.length,.fn 152 []]=some (.av [],[.row .own 9 ((gO Kp.seq l).map (aj .own)),.dead,.dead]):=by
 rw[au (b:=Jb) (rs:=[]) (n:=3) rfl rfl];have h0:¬(20:Int)<=l.length:=by omega
 have h0':¬(20:Int)<l.length:=by omega
 have h1:aI (ak (ev LI TT) (aq TT) Ox) [(0,.ref 100000 []),(1,.int .i64 l.length),(2,.fn 152 []),(6,.int .i64 20),(7,.int .i64 0),(8,.int .i64 20),(100000,.row .own 9 (l.map (aj .own)))]=some (.exit 0,[(0,.ref 100000 []),(1,.int .i64 l.length),(2,.fn 152 []),(6,.int .i64 20),(7,.int .i64 0),(8,.int .i64 20),(13,.bool false),(100000,.row .own 9 (l.map (aj .own)))]):=by rw[cW];simp -implicitDefEqProofs [Ox,Wb,h0]
 have h2:∀Z,aI (ak (ev LI TT) (aq TT) Oy) [(0,.ref 100000 []),(1,.int .i64 l.length),(2,.fn 152 []),(6,.int .i64 20),(100000,.row .own 9 Z)]=some (.exit 2,[(0,.ref 100000 []),(1,.int .i64 l.length),(2,.fn 152 []),(6,.int .i64 20),(30,.bool false),(100000,.row .own 9 Z)]):=by intro Z;rw[cW];simp -implicitDefEqProofs [Oy,Wc,h0']
 have h3:=Z8 l (by omega);try simp at h1 h3
 simp -implicitDefEqProofs [Jb,h1,h2,h3];all_goals (repeat' split)<;>first|rfl|omega|simp_all<;>omega|skip
def Z7(l:List Kp)(hb:l.length<=15):ev LI TT 151 [.row .own 9 (l.map (aj .own)),.fn 152 []]=some (.av [],[.row .own 9 ((gO Kp.seq l).map (aj .own)),.dead]):=by
 rw[au (b:=I8) (rs:=[]) (n:=2) rfl rfl];have u1:=Z9 l hb;try simp at u1
 simp -implicitDefEqProofs [I8,u1];all_goals (repeat' split)<;>first|rfl|omega|simp_all<;>omega|skip
def Qd(s:Sh)(n:Int)(hs:0<=s.seq/\s.seq<=1000000)(hn:0<=n/\n<=1000000):ev LI TT 149 [.ptr .own (aG .own s),.int .i64 n]=some (.av [],[.ptr .own (aG .own ⟨s.aD,s.ai,s.ay,s.next,if n<100000 then max s.seq (n+1) else s.seq⟩),.dead]):=by
 rw[au (b:=xJ) (rs:=[]) (n:=2) rfl rfl];have hw:IntKind.i64.wrap (n+1)=n+1:=bO (by omega) (by omega);by_cases g:n<100000;rotate_left;·simp -implicitDefEqProofs [xJ,g]
 by_cases g2:n+1>s.seq
 ·have e:max s.seq (n+1)=n+1:=by omega
  have g3:s.seq<n+1:=by omega
  simp -implicitDefEqProofs [xJ,g,g2,g3,hw,e]
 have e:max s.seq (n+1)=s.seq:=by omega
 have g3:¬s.seq<n+1:=by omega
 simp -implicitDefEqProofs [xJ,g,g2,g3,hw,e];all_goals (repeat' split)<;>first|rfl|omega|simp_all<;>omega|skip
def GR(s:ag):0<=(cj s).1/\(cj s).1<=100000:=by
 cases h:(cj s).2.2;·rw[UG h];simp
 ·have:=GS h;omega
def Xr(d:aV)(hd:cg d=true)(hwd:bC d<=16777216):
  aI (ak (ev LI TT) (aq TT) uY) [(0,.az 100000 [] 0 0),(8,.int .i64 0),(100000,.ptr .own (aG .own ⟨d,[],[],5,1⟩))]=
  (match cT (iF d) 0 (List.range 5) ([],0) with
   |.inl g=>some (.exit 0,[(0,.az 100000 [] 0 0),(8,.int .i64 5),(9,.bool false),(100000,.ptr .own (aG .own ⟨d,[],g.1,5,g.2+1⟩))])
   |.inr e=>some (.ret,[(0,.az 100000 [] 0 0),(3,.int .i64 e.2.1),(6,.ptr .own (aY e.2.2.1)),(8,.int .i64 (e.2.2.2:Nat)),(31,.bool true),(100000,.ptr .own (aG .own ⟨d,[],e.1.1,5,e.1.2+1⟩))])):=by
 obtain⟨k0,k1,k2⟩:=fR hd
 have:=B0 (xt:=0) (f:=ak (ev LI TT) (aq TT) uY) (List.range 5) (λi (g:List Bn×Int)=>[(0,.az 100000 [] 0 0),(8,.int .i64 i),(100000,.ptr .own (aG .own ⟨d,[],g.1,5,g.2+1⟩))]) (iF d)
  (λg=>[(0,.az 100000 [] 0 0),(8,.int .i64 5),(9,.bool false),(100000,.ptr .own (aG .own ⟨d,[],g.1,5,g.2+1⟩))])
  (λe=>(.ret,[(0,.az 100000 [] 0 0),(3,.int .i64 e.2.1),(6,.ptr .own (aY e.2.2.1)),(8,.int .i64 (e.2.2.2:Nat)),(31,.bool true),(100000,.ptr .own (aG .own ⟨d,[],e.1.1,5,e.1.2+1⟩))]))
  (λi g=>(∀b∈g.1,dn b=true)/\g.1.length<=i/\0<=g.2/\g.2<100000) ([],0) (by simp) (λi b g hi hl hg=>?_) (λi b g g' hi hg hO=>(Gz d hg).1 g' hO) (λg hg=>?_)
 ·refine zN ?_ (this.trans ?_);·simp
  ·cases cT (iF d) 0 (List.range 5) ([],0) with
   |inl g=>rfl
   |inr e=>rfl
 ·have uJ:i<5:=by simpa using hl
  have eR:(i:Int)<5:=by omega
  have hw:=aU i (by omega);have u1:=P6 d i (by omega) (by omega) (by omega);have Lj:=Fc d i;have u2:=P8 (cr d i) (by omega);have hrl:=GQ (cr d i);have nG:=GR (cr d i);have u3:=Za (cj (cr d i)).2.1 (by omega);have hlz:(g.1.length+1)*48<=140737488355328:=by omega
  unfold iF;generalize cj (cr d i)=rr at u2 u3 hrl nG⊢;obtain⟨n,bd,ok⟩:=rr;simp only at u2 u3 hrl nG⊢;generalize eO bd=br at u3⊢;obtain⟨⟨bk,ba,bb,bt⟩,ug⟩:=br;have u4:=Qd ⟨d,[],g.1++[⟨bk,ba,bb,bt⟩],5,g.2+1⟩ n (by simp only;omega) (by omega);have uL:(if n<100000 then max (g.2+1) (n+1) else g.2+1)=sR g.2 n+1:=by unfold sR;split<;>omega
  simp only[uL] at u4;simp at u1 u2 u3 u4;cases ok;·simp -implicitDefEqProofs [uY,BE,xH,xI,eR,hw,u1,u2,u3,lv]
  cases ug;·simp -implicitDefEqProofs [uY,BE,xH,xI,eR,hw,u1,u2,u3,lv]
  simp -implicitDefEqProofs [uY,BE,xH,xI,eR,hw,u1,u2,u3,u4,lv,hlz,bJ]
 ·simp -implicitDefEqProofs [uY,BE]
def Zp(d:aV)(hd:cg d=true)(hwd:bC d<=16777216):ev LI TT 105 [.ptr .own (aG .own ⟨d,[],[],5,1⟩)]=some (.av [],[.ptr .own (aG .own ⟨d,[],(dH d).1,5,(dH d).2+1⟩)]):=by
 rw[au (b:=BF) (rs:=[]) (n:=1) rfl rfl];have u1:=Xr d hd hwd;try simp at u1
 unfold dH;cases hr:cT (iF d) 0 (List.range 5) ([],0) with
 |inl g=>rw[hr] at u1;simp at u1;simp -implicitDefEqProofs [BF,u1,rJ]
 |inr e=>
 rw[hr] at u1;simp at u1;simp -implicitDefEqProofs [BF,u1,u1,rJ,xH,xI];all_goals (repeat' split)<;>first|rfl|omega|simp_all<;>omega|skip
def X1(d:aV)(hd:cg d=true)(hwd:bC d<=16777216):
  aI (ak (ev LI TT) (aq TT) tB) [(1,.ptr .own (bW .af d)),(4,.row .own 4 []),(5,.int .i64 0),(6,.int .i64 0)]=
  (match cT (iF d) 0 (List.range 5) ([],0) with
   |.inl g=>some (.exit 0,[(1,.ptr .own (bW .af d)),(4,.row .own 4 (g.1.map aY)),(5,.int .i64 g.2),(6,.int .i64 5),(14,.bool false)])
   |.inr e=>some (.ret,[(2,.row .own 4 (e.1.1.map aY)),(3,.int .i64 e.1.2),(4,.dead)])):=by
 obtain⟨k0,k1,k2⟩:=fR hd
 have:=B0 (xt:=0) (f:=ak (ev LI TT) (aq TT) tB) (List.range 5) (λi (g:List Bn×Int)=>[(1,.ptr .own (bW .af d)),(4,.row .own 4 (g.1.map aY)),(5,.int .i64 g.2),(6,.int .i64 i)]) (iF d)
  (λg=>[(1,.ptr .own (bW .af d)),(4,.row .own 4 (g.1.map aY)),(5,.int .i64 g.2),(6,.int .i64 5),(14,.bool false)])
  (λe=>(.ret,[(2,.row .own 4 (e.1.1.map aY)),(3,.int .i64 e.1.2),(4,.dead)]))
  (λi g=>(∀b∈g.1,dn b=true)/\g.1.length<=i/\0<=g.2/\g.2<100000) ([],0) (by simp) (λi b g hi hl hg=>?_) (λi b g g' hi hg hO=>(Gz d hg).1 g' hO) (λg hg=>?_)
 ·refine zN ?_ (this.trans ?_);·simp
  ·cases cT (iF d) 0 (List.range 5) ([],0) with
   |inl g=>rfl
   |inr e=>rfl
 ·have uJ:i<5:=by simpa using hl
  have eR:(i:Int)<5:=by omega
  have hw:=aU i (by omega);have u1:=Qr d i (by omega);have hin:cg d=true/\(0:Int)<=i/\(i:Int)<=19:=⟨hd,by omega,by omega⟩;rw[ax hin] at u1;have Lj:=Fc d i;have u2:=Qz (cr d i) (by omega);have hrl:=GQ (cr d i);have nG:=GR (cr d i);have u3:=ZE (cj (cr d i)).2.1 (by omega);have hlz:(g.1.length+1)*48<=140737488355328:=by omega
  unfold iF;generalize cj (cr d i)=rr at u2 u3 hrl nG⊢;obtain⟨n,bd,ok⟩:=rr;simp only at u2 u3 hrl nG⊢;generalize eO bd=br at u3⊢;obtain⟨⟨bk,ba,bb,bt⟩,ug⟩:=br;have A1:max g.2 n=if n<g.2 then g.2 else n:=by split<;>omega
  simp at u1 u2 u3;cases ok;·simp -implicitDefEqProofs [tB,yU,eR,hw,u1,u2,u3,lv]
  cases ug;·simp -implicitDefEqProofs [tB,yU,eR,hw,u1,u2,u3,lv]
  by_cases gq:n<100000;·simp -implicitDefEqProofs [tB,yU,eR,hw,u1,u2,u3,lv,hlz,bJ,gq,sR,A1]
  ·simp -implicitDefEqProofs [tB,yU,eR,hw,u1,u2,u3,lv,hlz,bJ,gq,sR]
 ·simp -implicitDefEqProofs [tB,yU]
def ZS(d:aV)(hd:cg d=true)(hwd:bC d<=16777216):ev LI TT 161 [.agg (bW .af d)]=some (.av [.row .own 4 ((dH d).1.map aY),.int .i64 (dH d).2],[.dead]):=by
 rw[au (b:=CX) (rs:=[.t 2,.t 3]) (n:=1) rfl rfl];have u1:=X1 d hd hwd;try simp at u1
 unfold dH;cases hr:cT (iF d) 0 (List.range 5) ([],0) with
 |inl g=>rw[hr] at u1;simp at u1;simp -implicitDefEqProofs [CX,u1,rJ]
 |inr e=>
 rw[hr] at u1;simp at u1;simp -implicitDefEqProofs [CX,u1,u1,rJ];all_goals (repeat' split)<;>first|rfl|omega|simp_all<;>omega|skip
end M
set_option maxHeartbeats 4000000
namespace M
open Go
def Mq(d:aV):wL aO (dH d).1<=1000:=by have:=B2 d;have:=pM (w:=aO) (n:=120) (m:=5) (l:=(dH d).1) (λb hb=>PX (this.1 b hb)) this.2.1;omega
def Xs(d:aV)(bs:List Bn)(m:Int)(hd:cg d=true)(hwd:bC d<=16777216)(K8:wL aO bs<=1000)(hm:0<=m/\m<100000):
  aI (ak (ev LI TT) (aq TT) qu) [(0,.az 100000 [] 0 0),(3,.row .own 9 []),(4,.int .i64 5),(100000,.ptr .own (aG .own ⟨d,[],bs,5,m+1⟩))]=
  some (.exit 0,[(0,.az 100000 [] 0 0),(3,.row .own 9 ((k6 bs d m).1.map (aj .own))),(4,.int .i64 20),(11,.bool false),(100000,.ptr .own (aG .own ⟨d,[],bs,5,(k6 bs d m).2+1⟩))]):=by
 obtain⟨k0,k1,k2⟩:=fR hd
 have:=fP (xt:=0) (f:=ak (ev LI TT) (aq TT) qu) (List.range 15) (λi (g:List Kp×Int)=>[(0,.az 100000 [] 0 0),(3,.row .own 9 (g.1.map (aj .own))),(4,.int .i64 ((5+i:Nat):Int)),(100000,.ptr .own (aG .own ⟨d,[],bs,5,g.2+1⟩))]) (qB bs d)
  (λg=>[(0,.az 100000 [] 0 0),(3,.row .own 9 (g.1.map (aj .own))),(4,.int .i64 20),(11,.bool false),(100000,.ptr .own (aG .own ⟨d,[],bs,5,g.2+1⟩))])
  (λi g=>i<=15/\tZ i g) ([],m) ⟨by omega,⟨by simp,by simp,hm,by simp,by simp,by simp⟩⟩ (λi b g hi hl hg=>?_) (λi b g hi hg=>?_) (λg hg=>?_)
 ·refine zN ?_ this;simp
 ·have uJ:i<15:=by simpa using hl
  obtain⟨at_,iD⟩:∃a,((5+i:Nat):Int)=a:=⟨_,rfl⟩;have eR:at_<20:=by omega
  have hw:IntKind.i64.wrap (at_+1)=at_+1:=bO (by omega) (by omega);have Ft:((5+(i+1):Nat):Int)=at_+1:=by omega
  have u1:=P6 d at_ (by omega) (by omega) (by omega);have Lj:=Fc d at_;have u2:=P8 (cr d at_) (by omega);have hrl:=GQ (cr d at_);have nG:=GR (cr d at_);have u3:=Zi (cj (cr d at_)).2.1 (by omega);have how:=Uc (cj (cr d at_)).2.1;have mJ:=hg.2.n;have hlz:(g.1.length+1)*136<=140737488355328:=by omega
  have hgm:=hg.2.m;unfold qB;rw[iD,Ft];generalize cj (cr d at_)=rr at u2 u3 hrl nG how⊢;obtain⟨n,bd,ok⟩:=rr;simp only at u2 u3 hrl nG how⊢;generalize ig bd=br at u3 how⊢;obtain⟨⟨op,on,ov,⟨rs,rf,rb⟩,ot⟩,ug⟩:=br;simp only at how;have u4:=Qd ⟨d,[],bs,5,g.2+1⟩ n (by simp only;omega) (by omega);have u5:=JZ bs ⟨op,on,ov,⟨rs,rf,rb⟩,ot⟩ (by omega) (by omega);simp only at u5⊢;generalize fu bs ⟨op,on,ov,⟨rs,rf,rb⟩,ot⟩=hb at u5⊢;simp at u1 u2 u3;cases ok;·simp -implicitDefEqProofs [qu,uZ,eR,hw,u1,u2,u3,lv]
  cases ug;·simp -implicitDefEqProofs [qu,uZ,eR,hw,u1,u2,u3,lv]
  by_cases gq:n<100000;rotate_left
  ·have qd:100000<=n:=by omega
   simp -implicitDefEqProofs [qu,uZ,eR,hw,u1,u2,u3,lv,gq,qd]
  have qd:¬100000<=n:=by omega
  have uL:(if n<100000 then max (g.2+1) (n+1) else g.2+1)=max g.2 n+1:=by rw[ax gq];omega
  simp only[uL] at u4;simp at u4 u5;cases hb;·simp -implicitDefEqProofs [qu,uZ,eR,hw,u1,u2,u3,u4,u5,lv,hlz,bJ,gq,qd]
  ·simp -implicitDefEqProofs [qu,uZ,eR,hw,u1,u2,u3,u4,u5,lv,gq,qd]
 ·have uJ:i<15:=by have:=(aJ.1 hi).1;simpa using this
  exact⟨by omega,Mu bs d uJ b hg.2⟩
 ·simp -implicitDefEqProofs [qu,uZ]
def Zq(d:aV)(bs:List Bn)(m:Int)(hd:cg d=true)(hwd:bC d<=16777216)(K8:wL aO bs<=1000)(hm:0<=m/\m<100000):ev LI TT 106 [.ptr .own (aG .own ⟨d,[],bs,5,m+1⟩)]=some (.row .own 9 ((gO Kp.seq (k6 bs d m).1).map (aj .own)),[.ptr .own (aG .own ⟨d,[],bs,5,(k6 bs d m).2+1⟩)]):=by
 rw[au (b:=FT) (rs:=[.t 2]) (n:=1) rfl rfl];have u1:=Xs d bs m hd hwd K8 hm;try simp at u1
 have u2:=Z7 (k6 bs d m).1 (af2 bs d m hm);try simp at u2
 simp -implicitDefEqProofs [FT,u1,u2];all_goals (repeat' split)<;>first|rfl|omega|simp_all<;>omega|skip
def ZA(x k:Kp)(hx:bG x.obj<=1073741824)(hk:bG k.obj<=1073741824):ev LI TT 107 [.agg (aj .af x),.ptr .af (aj .af k)]=some (.bool (decide (x.seq=k.seq)||fJ x.obj k.obj),[.dead,.dead]):=by
 rw[au (b:=Gh) (rs:=[.t 3]) (n:=2) rfl rfl];have u1:=Qm x.obj k.obj hx hk;try simp at u1
 by_cases g:x.seq=k.seq;all_goals
 simp -implicitDefEqProofs [Gh,u1,g];all_goals (repeat' split)<;>first|rfl|omega|simp_all<;>omega|skip
def Xq(d:aV)(bs:List Bn)(sq:Int)(all:List Kp)(ql:all.length<=15)(hall:∀k∈all,wI k):
  aI (ak (ev LI TT) (aq TT) xM) [(2,.ptr .own (aG .own ⟨⟨[],[]⟩,[],[],0,0⟩)),(3,.ptr .own (aG .own ⟨d,[],bs,5,sq⟩)),(4,.row .own 9 (all.map (aj .own))),(12,.ref 4 []),(13,.int .i64 all.length),(14,.int .i64 0)]=
  some (.exit 0,[(2,.ptr .own (aG .own ⟨⟨[],[]⟩,[],[],0,0⟩)),(3,.ptr .own (aG .own ⟨d,(kZ all).1,bs,(kZ all).2,sq⟩)),(4,.row .own 9 (all.map bV)),(12,.ref 4 []),(13,.int .i64 all.length),(14,.int .i64 all.length),(15,.bool false)]):=by
 have:=fP (xt:=0) (f:=ak (ev LI TT) (aq TT) xM) all (λi (g:List Kp×Int)=>[(2,.ptr .own (aG .own ⟨⟨[],[]⟩,[],[],0,0⟩)),(3,.ptr .own (aG .own ⟨d,g.1,bs,g.2,sq⟩)),(4,.row .own 9 ((all.take i).map bV++(all.drop i).map (aj .own))),(12,.ref 4 []),(13,.int .i64 all.length),(14,.int .i64 i)]) (nQ all)
  (λg=>[(2,.ptr .own (aG .own ⟨⟨[],[]⟩,[],[],0,0⟩)),(3,.ptr .own (aG .own ⟨d,g.1,bs,g.2,sq⟩)),(4,.row .own 9 (all.map bV)),(12,.ref 4 []),(13,.int .i64 all.length),(14,.int .i64 all.length),(15,.bool false)])
  (λi g=>g.1.length<=i) ([],5) (by simp) (λi b g hi hl hg=>?_) (λi b g hi hg=>?_) (λg hg=>?_)
 ·rw[Tz] at this;refine zN ?_ this;simp
 ·obtain⟨_,rfl⟩:=aJ.1 hi;have hw:=aU i (by omega);have hlz:(g.1.length+1)*136<=140737488355328:=by omega
  obtain⟨T,hT⟩:∃T,(all.take i).map bV++(all.drop i).map (aj .own)=T:=⟨_,rfl⟩;have hk:=hall _ (cq hl);have u1:=QM (all.drop (i+1)) all[i] 107 (λx=>decide (x.seq=(all[i]).seq)||fJ x.obj (all[i]).obj) rfl (λx hx=>ZA x all[i] (by have:=sY (hall x (Ww hx)).o;omega) (by have:=sY hk.o;omega)) (by simp;omega);have u2:=Qh (all[i]).at_ hk.a;have hlb:oN all i all[i]= !bq (λx=> !(decide (x.seq=(all[i]).seq)||fJ x.obj (all[i]).obj)) (all.drop (i+1)):=by unfold oN bq;rw[WJ];simp
  have uF:T.length=all.length:=by rw[<-hT];simp;omega
  have iQ:i<T.length:=by omega
  have e:all.drop i=all[i]::all.drop (i+1):=nr hl;have sB:((all.take i).map bV).length=i:=by rw[cV,zF];omega
  have jN:T[i]=aj .own all[i]:=by
   have h2:T[i]?=some (aj .own all[i]):=by rw[<-hT,iM (by omega),sB,zJ,e];rfl
   exact(aJ.1 h2).2
  have SB:T.set i (bV all[i])=(all.take (i+1)).map bV++(all.drop (i+1)).map (aj .own):=by rw[<-hT,DM _ _ (by omega),sB,zJ,e,bn,DN,pQ hl,jg,mz];rfl
  have hml:∀(l:List (List X)),X.bT .af l=l.map (X.dJ .af):=λl=>by
   induction l with
   |nil=>rfl
   |cons a l ih=>simp[X.bT,ih]
  have gG:((X.bT .af (T.set i (bV all[i]))).take all.length).drop (i+1)=(all.map (aj .af)).drop (i+1):=by
   have hd1:(((all.take (i+1)).map bV).map (X.dJ .af)).length=i+1:=by rw[cV,cV,zF];omega
   rw[tM (by rw[hml,cV,Jd];omega),SB,hml,jg];rw[List.drop_left' hd1,cP,<-mj];apply cm;intro x _;simp
  have hm:=mR T i _ (aJ.2 ⟨iQ,jN⟩);rw[hT,<-SB];unfold nQ;rw[hlb];generalize bq (λx=> !(decide (x.seq=(all[i]).seq)||fJ x.obj (all[i]).obj)) (all.drop (i+1))=q at u1⊢;have eR:(i:Int)<all.length:=by omega
  have FC:(i:Int)+1<=all.length:=by omega
  have hc0:(0:Int)<=(i:Int)+1:=by omega
  have ho:aq TT 107=true:=rfl;have htk:T.take all.length=T:=tM (by omega);rw[<-uF] at htk;try simp[bV] at u1 u2 jN hm gG
  cases q;·simp -implicitDefEqProofs [xM,Gi,hl,eR,hw,iQ,uF,jN,hm,gG,FC,hc0,u1,u2,kE,jz,gj,fT,bJ,hlz,bV,htk]
  ·simp -implicitDefEqProofs [xM,Gi,hl,eR,hw,iQ,uF,jN,hm,gG,FC,hc0,u1,u2,kE,jz,gj,fT,bJ,hlz,bV,htk]
 ·unfold nQ;split;·omega
  ·simp;omega
 ·simp -implicitDefEqProofs [xM,Gi]
end M
set_option maxHeartbeats 4000000
namespace M
open Go
def n7:Sh:=⟨⟨List.replicate 20 [],[]⟩,[],[],5,1⟩
def Zc:ev LI TT 104 []=some (.agg (bW .own ⟨List.replicate 20 [],[]⟩),[]):=by rw[au (b:=FH) (rs:=[.c 0 2 true 27]) (n:=0) rfl rfl];simp -implicitDefEqProofs [FH];all_goals (repeat' split)<;>first|rfl|omega|simp_all<;>omega|skip
def Qs:ev LI TT 160 []=some (.agg (bW .own ⟨List.replicate 20 [],[]⟩),[]):=by rw[au (b:=G5) (rs:=[.c 0 2 true 27]) (n:=0) rfl rfl];simp -implicitDefEqProofs [G5];all_goals (repeat' split)<;>first|rfl|omega|simp_all<;>omega|skip
def Zk:ev LI TT 48 []=some (.agg (aG .own n7),[]):=by
 rw[au (b:=FO) (rs:=[.c 0 6 true 31]) (n:=0) rfl rfl];have u1:=Zc;try simp at u1
 simp -implicitDefEqProofs [FO,u1,n7];all_goals (repeat' split)<;>first|rfl|omega|simp_all<;>omega|skip
def QB:ev LI TT 118 []=some (.agg (aG .own n7),[]):=by
 rw[au (b:=Hs) (rs:=[.c 0 6 true 31]) (n:=0) rfl rfl];have u1:=Qs;try simp at u1
 simp -implicitDefEqProofs [Hs,u1,n7];all_goals (repeat' split)<;>first|rfl|omega|simp_all<;>omega|skip
def Zz(d:aV)(hd:cg d=true)(hwd:bC d<=16777216):ev LI TT 49 [.agg (bW .own d)]=some (.agg (aG .own (iG d)),[.dead]):=by rw[au (b:=Gj) (rs:=[.c 2 6 true 31]) (n:=1) rfl rfl];have B:=B2 d;have O:=xW d;have u1:=Zp d hd hwd;have u2:=Zq d (dH d).1 (dH d).2 hd hwd (Mq d) B.2.2;have u3:=Xq d (dH d).1 ((gK d).2+1) (fe d) (Mo d) (λk hk=>(B1 hk).1);rw[show k6 (dH d).1 d (dH d).2=gK d from rfl,show gO Kp.seq (gK d).1=fe d from rfl] at u2;have e:iG d=⟨d,(kZ (fe d)).1,(dH d).1,(kZ (fe d)).2,(gK d).2+1⟩:=rfl;rw[e];clear e B O;generalize kZ (fe d)=lk at u3⊢;generalize fe d=all at u2 u3;generalize gK d=od at u2 u3⊢;generalize dH d=mb at u1 u2 u3⊢;obtain⟨ai,nx⟩:=lk;obtain⟨od1,od2⟩:=od;obtain⟨bs,ms⟩:=mb;simp at u1 u2 u3;simp -implicitDefEqProofs [Gj,u1,u2,u3];all_goals (repeat' split)<;>first|rfl|omega|simp_all<;>omega|skip
noncomputable def sS(d:aV):Sh:=if cg d=true then iG d else n7
def J0(d:aV)(hwd:bC d<=16777216):ev LI TT 15 [.agg (bW .af d)]=some (.agg (aG .own (sS d)),[.dead]):=by
 rw[au (b:=Bu) (rs:=[.c 2 6 true 31]) (n:=1) rfl rfl];have Bb:bC d=wL wS d.cells+wL cY d.pending:=rfl;have l1:=bh (w:=wS) d.cells;have l2:=bh (w:=cY) d.pending;unfold sS;have u1:=JX d (by omega);try simp at u1
 have u2:=Qi d (by omega) (by omega);try simp at u2
 by_cases g:cg d=true;rotate_left;·have u3:=Zk;rw[show cg d=false by simpa using g] at u1⊢;simp at u1 u3;simp -implicitDefEqProofs [Bu,u1,u3]
 have u3:=Zz d g hwd;rw[g] at u1⊢;simp at u1 u3;simp -implicitDefEqProofs [Bu,u1,u2,u1,u3];all_goals (repeat' split)<;>first|rfl|omega|simp_all<;>omega|skip
def Tf{α:Type}(q:α->Int)(k:α):∀(l:List α) (g:List α×Bool),(l.foldl (jQ q k) g).1.length<=g.1.length+2*l.length
 |[],g=>by simp
 |x::l,g=>by
  rw[ou];have h:=Tf q k l (jQ q k g x);have h2:(jQ q k g x).1.length<=g.1.length+2:=by unfold jQ;(try dsimp only);split<;>simp
  simp only[cw];omega
def DJ{n m:Nat}(h:n<=m)(hm:m<=100000:=by decide):(n+1)*136<=140737488355328:=by omega
def Jz{i n:Nat}(h:i<n)(hb:n<=1000):i<9223372036854775807:=by omega
def Yo(T:List (List X))(n i:Nat)(k x:Kp)(out:List Kp)(iQ:i<T.length)(hb:T.length<=1000)(jN:T[i]=aj .own x)(ho:out.length<=1000)(hq:k.seq<x.seq):
  ak (ev LI TT) (aq TT) pE [(0,.ref 100000 []),(3,.ptr .own (aj .own k)),(5,.row .own 9 (out.map (aj .own))),(6,.bool false),(7,.int .i64 i),(100000,.row .own 9 T)]=some (.normal,[(0,.ref 100000 []),(3,.ptr .own (bV k)),(5,.row .own 9 ((out++[k,x]).map (aj .own))),(6,.bool true),(7,.int .i64 ((i+1:Nat):Int)),(100000,.row .own 9 (T.set i (bV x)))]):=by
 have hz1:=DJ ho;have hz2:=DJ (Nat.succ_le_succ ho);have sn:(i:Int)<T.length:=DU.2 iQ;have hw:=aU i (Jz iQ hb);have hm:=mR T i _ (aJ.2 ⟨iQ,jN⟩);try simp at jN hm
 simp -implicitDefEqProofs [pE,C8,iQ,sn,jN,hm,kE,hz1,hz2,hq,hw,bJ,bV]
def Yp(T:List (List X))(n i:Nat)(k x:Kp)(out:List Kp)(iQ:i<T.length)(hb:T.length<=1000)(jN:T[i]=aj .own x)(ho:out.length<=1000)(hq:¬k.seq<x.seq):
  ak (ev LI TT) (aq TT) pE [(0,.ref 100000 []),(3,.ptr .own (aj .own k)),(5,.row .own 9 (out.map (aj .own))),(6,.bool false),(7,.int .i64 i),(100000,.row .own 9 T)]=some (.normal,[(0,.ref 100000 []),(3,.ptr .own (aj .own k)),(5,.row .own 9 ((out++[x]).map (aj .own))),(6,.bool false),(7,.int .i64 ((i+1:Nat):Int)),(100000,.row .own 9 (T.set i (bV x)))]):=by
 have hz1:=DJ ho;have sn:(i:Int)<T.length:=DU.2 iQ;have hw:=aU i (Jz iQ hb);have hm:=mR T i _ (aJ.2 ⟨iQ,jN⟩);try simp at jN hm
 simp -implicitDefEqProofs [pE,C8,iQ,sn,jN,hm,kE,hz1,hq,hw,bJ,bV]
def Yq(T:List (List X))(n i:Nat)(k x:Kp)(out:List Kp)(iQ:i<T.length)(hb:T.length<=1000)(jN:T[i]=aj .own x)(ho:out.length<=1000):
  ak (ev LI TT) (aq TT) pE [(0,.ref 100000 []),(3,.ptr .own (bV k)),(5,.row .own 9 (out.map (aj .own))),(6,.bool true),(7,.int .i64 i),(100000,.row .own 9 T)]=some (.normal,[(0,.ref 100000 []),(3,.ptr .own (bV k)),(5,.row .own 9 ((out++[x]).map (aj .own))),(6,.bool true),(7,.int .i64 ((i+1:Nat):Int)),(100000,.row .own 9 (T.set i (bV x)))]):=by
 have hz1:=DJ ho;have sn:(i:Int)<T.length:=DU.2 iQ;have hw:=aU i (Jz iQ hb);have hm:=mR T i _ (aJ.2 ⟨iQ,jN⟩);try simp at jN hm
 simp -implicitDefEqProofs [pE,C8,iQ,sn,jN,hm,kE,hz1,hw,bJ,bV]
def ah9(l:List Kp)(i:Nat)(hl:i<l.length)(hb:l.length<=15):((l.take i).map bV++(l.drop i).map (aj .own)).length=l.length/\((l.take i).map bV++(l.drop i).map (aj .own))[i]?=some (aj .own l[i])/\((l.take i).map bV++(l.drop i).map (aj .own)).set i (bV l[i])=(l.take (i+1)).map bV++(l.drop (i+1)).map (aj .own):=by
 have e:l.drop i=l[i]::l.drop (i+1):=nr hl;have sB:((l.take i).map bV).length=i:=by rw[cV,zF];omega
 refine⟨by simp;omega,?_,?_⟩;·rw[iM (by omega),sB,zJ,e];rfl
 ·rw[DM _ _ (by omega),sB,zJ,e,bn,DN,pQ hl,jg,mz];rfl
def qU(k:Kp)(b:Bool):List X:=if b=true then bV k else aj .own k
def aiy(ks:List Nat)(k:Kp)(b:Bool):X.nV ks (qU k b)=qU k b:=by cases b<;>simp[qU,bV]
def X3(l:List Kp)(k:Kp)(ql:l.length<=15):
  aI (ak (ev LI TT) (aq TT) pE) [(0,.ref 100000 []),(3,.ptr .own (aj .own k)),(5,.row .own 9 []),(6,.bool false),(7,.int .i64 0),(100000,.row .own 9 (l.map (aj .own)))]=some (.exit 0,[(0,.ref 100000 []),(3,.ptr .own (qU k (l.foldl (jQ Kp.seq k) ([],false)).2)),(5,.row .own 9 ((l.foldl (jQ Kp.seq k) ([],false)).1.map (aj .own))),(6,.bool (l.foldl (jQ Kp.seq k) ([],false)).2),(7,.int .i64 l.length),(12,.bool false),(100000,.row .own 9 (l.map bV))]):=by
 have:=fP (xt:=0) (f:=ak (ev LI TT) (aq TT) pE) l (λi (g:List Kp×Bool)=>[(0,.ref 100000 []),(3,.ptr .own (qU k g.2)),(5,.row .own 9 (g.1.map (aj .own))),(6,.bool g.2),(7,.int .i64 i),(100000,.row .own 9 ((l.take i).map bV++(l.drop i).map (aj .own)))]) (λ_ g x=>jQ Kp.seq k g x)
  (λg=>[(0,.ref 100000 []),(3,.ptr .own (qU k g.2)),(5,.row .own 9 (g.1.map (aj .own))),(6,.bool g.2),(7,.int .i64 l.length),(12,.bool false),(100000,.row .own 9 (l.map bV))])
  (λi g=>g.1.length<=2*i) ([],false) (by simp) (λi b g hi hl hg=>?_) (λi b g hi hg=>?_) (λg hg=>?_)
 ·rw[KO] at this;refine zN ?_ this;simp[qU]
 ·obtain⟨_,rfl⟩:=aJ.1 hi;obtain⟨r1,r2,r3⟩:=ah9 l i hl ql;rw[<-r3];generalize (l.take i).map bV++(l.drop i).map (aj .own)=T at r1 r2⊢;obtain⟨q1,q2⟩:=aJ.1 r2;obtain⟨out,pt⟩:=g;simp only at hg;unfold jQ qU;cases pt
  ·by_cases hq:k.seq<(l[i]).seq;·have:=Yo T 0 i k l[i] out q1 (by omega) q2 (by omega) hq;simp only[hq,fD,dQ,zL,dh,decide_true,Bool.or_true];exact this
   ·have:=Yp T 0 i k l[i] out q1 (by omega) q2 (by omega) hq;simp only[hq,fD,dQ,and_false,O1,Bool.or_false];exact this
  ·have:=Yq T 0 i k l[i] out q1 (by omega) q2 (by omega);simp only[O5,dQ,dh,false_and,Bool.true_or];exact this
 ·unfold jQ;simp only;split<;>simp<;>omega
 ·simp -implicitDefEqProofs [pE,C8,aiy]
def ZT(l:List Kp)(k:Kp)(ql:l.length<=15):ev LI TT 166 [.row .own 9 (l.map (aj .own)),.agg (aj .own k)]=some (.row .own 9 ((eH Kp.seq k l).map (aj .own)),[.dead,.dead]):=by
 rw[au (b:=HY) (rs:=[.t 4]) (n:=2) rfl rfl];have u1:=X3 l k ql;have hi:=afk Kp.seq k l [];simp only[kI] at hi;rw[<-hi];have hlen:=Tf Kp.seq k l ([],false);generalize l.foldl (jQ Kp.seq k) ([],false)=g at u1 hlen⊢;obtain⟨out,pt⟩:=g;simp only[gA] at hlen;have hz1:(out.length+1)*136<=140737488355328:=by omega
 unfold Gn;unfold qU at u1;cases pt;all_goals simp at u1
 all_goals
 simp -implicitDefEqProofs [HY,u1,hz1,bJ];all_goals (repeat' split)<;>first|rfl|omega|simp_all<;>omega|skip
def PL{α:Type}(p:α->Bool):∀(l:List α) (i:Nat) (g:Bool),foldI (λ_ (g:Bool) x=>g && p x) i l g=(g && bq p l)
 |[],i,g=>by simp[foldI,bq]
 |x::l,i,g=>by rw[foldI,PL p l];simp[bq,OT]
def YF{α:Type}(p:α->Bool)(l:List α):bq (λx=> !p x) l= !(l.any p):=by unfold bq;rw[WJ];simp
def je(all:List Kp)(i:Nat):List (List X):=all.mapIdx λj k=>if j<i/\oN all j k=false then bV k else aj .own k
def IJ(all:List Kp)(i:Nat):(je all i).length=all.length:=by simp[je]
def Vp(all:List Kp)(i j:Nat)(h:i<=j)(hj:j<all.length):(je all i)[j]?=some (aj .own all[j]):=by unfold je;rw[zS,cz hj];simp only[cv];rw[aF (by omega)]
def aiU(all:List Kp):je all 0=all.map (aj .own):=by
 apply gy;intro j;unfold je;rw[zS,cZ];cases all[j]? with
 |none=>rfl
 |some k=>simp only[cv];rw[aF (by omega)]
def II(all:List Kp)(i j:Nat):(je all i)[j]?=all[j]?.map λk=>if j<i/\oN all j k=false then bV k else aj .own k:=by unfold je;rw[zS]
def aiT(all:List Kp)(i:Nat)(hi:i<all.length):je all (i+1)=if oN all i all[i]=true then je all i else (je all i).set i (bV all[i]):=by
 apply gy;intro j;rw[II];by_cases e:j=i
 ·subst e;cases hb:oN all j all[j];·simp only[fD,dQ];rw[List.getElem?_set_self (by rw[IJ];exact hi),cz hi];simp only[cv,hb,and_true];rw[ax (by omega)]
  ·simp only[dh];rw[II,cz hi];simp only[cv,hb,O5,and_false,dQ]
 ·have e2:j<i+1↔j<i:=⟨λh=>by omega,λh=>by omega⟩;simp only[e2];split;·rw[II]
  ·rw[Pf (by omega),II]
def Yk(d:aV)(bs:List Bn)(sq:Int)(ai:List Kp)(nx:Int)(all:List Kp)(ql:all.length<=15)(hall:∀k∈all,wI k)(i:Nat)(hi:i<all.length)(T:List (List X))(hT:∀j,i<=j->(h:j<all.length)->T[j]?=some (aj .own all[j]))(uF:T.length=all.length):
  aI (ak (ev LI TT) (aq TT) vC) [(2,.ptr .own (aG .own ⟨⟨[],[]⟩,[],[],0,0⟩)),(5,.row .own 9 T),(12,.ptr .own (aG .own ⟨d,ai,bs,nx,sq⟩)),(13,.int .i64 i),(14,.bool true),(15,.int .i64 ((i+1:Nat):Int))]=
  some (.exit 4,[(2,.ptr .own (aG .own ⟨⟨[],[]⟩,[],[],0,0⟩)),(5,.row .own 9 T),(12,.ptr .own (aG .own ⟨d,ai,bs,nx,sq⟩)),(13,.int .i64 i),(14,.bool (!oN all i all[i])),(15,.int .i64 all.length),(83,.bool false)]):=by
 have:=fP (xt:=4) (f:=ak (ev LI TT) (aq TT) vC) (all.drop (i+1)) (λj (g:Bool)=>[(2,.ptr .own (aG .own ⟨⟨[],[]⟩,[],[],0,0⟩)),(5,.row .own 9 T),(12,.ptr .own (aG .own ⟨d,ai,bs,nx,sq⟩)),(13,.int .i64 i),(14,.bool g),(15,.int .i64 ((i+1+j:Nat):Int))]) (λ_ (g:Bool) x=>g && !(decide (x.seq=(all[i]).seq)||fJ x.obj (all[i]).obj))
  (λg=>[(2,.ptr .own (aG .own ⟨⟨[],[]⟩,[],[],0,0⟩)),(5,.row .own 9 T),(12,.ptr .own (aG .own ⟨d,ai,bs,nx,sq⟩)),(13,.int .i64 i),(14,.bool g),(15,.int .i64 all.length),(83,.bool false)])
  (λ_ _=>True) true trivial (λj b g hj hl _=>?_) (λ_ _ _ _ _=>trivial) (λg _=>?_)
 ·rw[PL,YF] at this;exact this
 ·rw[pS] at hj;obtain⟨hjl,rfl⟩:=aJ.1 hj;obtain⟨n,hn⟩:∃n,i+1+j=n:=⟨_,rfl⟩;have hn2:i+1+(j+1)=n+1:=by omega
  simp only[hn] at hjl⊢;rw[hn2];obtain⟨q1,q2⟩:=aJ.1 (hT n (by omega) hjl);obtain⟨q3,q4⟩:=aJ.1 (hT i (by omega) hi);have hw:=aU n (by omega);have eR:(n:Int)<T.length:=by omega
  have u1:=QH (all[n]).obj (all[i]).obj (by have:=sY (hall _ (cq hjl)).o;omega) (by have:=sY (hall _ (cq hi)).o;omega);clear hT hj hl;generalize fJ (all[n]).obj (all[i]).obj=tw at u1⊢;try simp at u1 q2 q4
  by_cases gq:(all[n]).seq=(all[i]).seq;·simp -implicitDefEqProofs [vC,Cz,eR,hw,q1,q2,q3,q4,gq]
  ·cases tw;·simp -implicitDefEqProofs [vC,Cz,eR,hw,q1,q2,q3,q4,gq,u1]
   ·simp -implicitDefEqProofs [vC,Cz,eR,hw,q1,q2,q3,q4,gq,u1]
 ·have e:i+1+(all.drop (i+1)).length=all.length:=by rw[mA];omega
  rw[e];simp -implicitDefEqProofs [vC,Cz,uF]
end M
set_option maxHeartbeats 4000000
namespace M
open Go
def Yn(d:aV)(bs:List Bn)(sq:Int)(ai:List Kp)(nx:Int)(all:List Kp)(ql:all.length<=15)(hall:∀k∈all,wI k)(i:Nat)(hi:i<all.length)(ho:ai.length<=1000):
  ak (ev LI TT) (aq TT) vD [(2,.ptr .own (aG .own ⟨⟨[],[]⟩,[],[],0,0⟩)),(5,.row .own 9 (je all i)),(12,.ptr .own (aG .own ⟨d,ai,bs,nx,sq⟩)),(13,.int .i64 i)]=
  some (.normal,[(2,.ptr .own (aG .own ⟨⟨[],[]⟩,[],[],0,0⟩)),(5,.row .own 9 (je all (i+1))),(12,.ptr .own (aG .own ⟨d,(nQ all i (ai,nx) all[i]).1,bs,(nQ all i (ai,nx) all[i]).2,sq⟩)),(13,.int .i64 ((i+1:Nat):Int))]):=by
 have hz:=DJ ho;have hw:=aU i (Jz hi (by omega));have hk:=hall _ (cq hi);have u2:=QE (all[i]).at_ hk.a;have u1:=Yk d bs sq ai nx all ql hall i hi (je all i) (λj h1 h2=>Vp all i j h1 h2) (IJ all i);have hg:=Vp all i i (ek _) hi;have uF:=IJ all i;rw[aiT all i hi];unfold nQ;generalize je all i=T at u1 hg uF⊢;obtain⟨q1,q2⟩:=aJ.1 hg;have hm:=mR T i _ hg;have sn:(i:Int)<T.length:=DU.2 q1;have SC:(i:Int)<all.length:=DU.2 hi;clear hall hk hg;cases hlb:oN all i all[i]
 ·rw[hlb] at u1;try simp at u1 u2 q2 hm
  simp -implicitDefEqProofs [vD,Ho,hi,q1,sn,SC,hw,u1,u2,q2,hm,kE,hz,bJ,bV]
 ·rw[hlb] at u1;try simp at u1 u2 q2 hm
  simp -implicitDefEqProofs [vD,Ho,hi,q1,sn,SC,hw,u1,u2,q2]
def Ym(d:aV)(bs:List Bn)(sq:Int)(all:List Kp)(ql:all.length<=15)(hall:∀k∈all,wI k):
  aI (ak (ev LI TT) (aq TT) vD) [(2,.ptr .own (aG .own ⟨⟨[],[]⟩,[],[],0,0⟩)),(5,.row .own 9 (all.map (aj .own))),(12,.ptr .own (aG .own ⟨d,[],bs,5,sq⟩)),(13,.int .i64 0)]=
  some (.exit 2,[(2,.ptr .own (aG .own ⟨⟨[],[]⟩,[],[],0,0⟩)),(5,.row .own 9 (je all all.length)),(12,.ptr .own (aG .own ⟨d,(kZ all).1,bs,(kZ all).2,sq⟩)),(13,.int .i64 all.length),(75,.bool false)]):=by
 have:=fP (xt:=2) (f:=ak (ev LI TT) (aq TT) vD) all (λi (g:List Kp×Int)=>[(2,.ptr .own (aG .own ⟨⟨[],[]⟩,[],[],0,0⟩)),(5,.row .own 9 (je all i)),(12,.ptr .own (aG .own ⟨d,g.1,bs,g.2,sq⟩)),(13,.int .i64 i)]) (nQ all)
  (λg=>[(2,.ptr .own (aG .own ⟨⟨[],[]⟩,[],[],0,0⟩)),(5,.row .own 9 (je all all.length)),(12,.ptr .own (aG .own ⟨d,g.1,bs,g.2,sq⟩)),(13,.int .i64 all.length),(75,.bool false)])
  (λi g=>g.1.length<=i/\i<=15) ([],5) (by simp) (λi b g hi hl hg=>?_) (λi b g hi hg=>?_) (λg hg=>?_)
 ·rw[Tz,aiU] at this;exact this
 ·obtain⟨_,rfl⟩:=aJ.1 hi;obtain⟨ai,nx⟩:=g;exact Yn d bs sq ai nx all ql hall i hl (by have:=hg.1;simp only at this;omega)
 ·have hl:=(aJ.1 hi).1;unfold nQ;split;·omega
  ·simp;omega
 ·simp -implicitDefEqProofs [vD,Ho,IJ]
def Yl(d:aV)(bs:List Bn)(m:Int)(hd:cg d=true)(hwd:bC d<=16777216)(K8:wL aO bs<=1000)(hm:0<=m/\m<100000):
  aI (ak (ev LI TT) (aq TT) qO) [(1,.ptr .own (bW .af d)),(2,.ptr .own (aG .own ⟨⟨[],[]⟩,[],[],0,0⟩)),(3,.ref 22 [(0,0)]),(4,.int .i64 m),(5,.row .own 9 []),(6,.int .i64 5),(20,.av [.ref 22 [(0,0)],.int .i64 m]),(22,.av [.row .own 4 (bs.map aY),.int .i64 m])]=
  some (.exit 0,[(1,.ptr .own (bW .af d)),(2,.ptr .own (aG .own ⟨⟨[],[]⟩,[],[],0,0⟩)),(3,.ref 22 [(0,0)]),(4,.int .i64 (k6 bs d m).2),(5,.row .own 9 ((gO Kp.seq (k6 bs d m).1).map (aj .own))),(6,.int .i64 20),(20,.av [.ref 22 [(0,0)],.int .i64 m]),(22,.av [.row .own 4 (bs.map aY),.int .i64 m]),(27,.bool false)]):=by
 obtain⟨k0,k1,k2⟩:=fR hd
 have:=fP (xt:=0) (f:=ak (ev LI TT) (aq TT) qO) (List.range 15) (λi (g:List Kp×Int)=>[(1,.ptr .own (bW .af d)),(2,.ptr .own (aG .own ⟨⟨[],[]⟩,[],[],0,0⟩)),(3,.ref 22 [(0,0)]),(4,.int .i64 g.2),(5,.row .own 9 ((gO Kp.seq g.1).map (aj .own))),(6,.int .i64 ((5+i:Nat):Int)),(20,.av [.ref 22 [(0,0)],.int .i64 m]),(22,.av [.row .own 4 (bs.map aY),.int .i64 m])]) (qB bs d)
  (λg=>[(1,.ptr .own (bW .af d)),(2,.ptr .own (aG .own ⟨⟨[],[]⟩,[],[],0,0⟩)),(3,.ref 22 [(0,0)]),(4,.int .i64 g.2),(5,.row .own 9 ((gO Kp.seq g.1).map (aj .own))),(6,.int .i64 20),(20,.av [.ref 22 [(0,0)],.int .i64 m]),(22,.av [.row .own 4 (bs.map aY),.int .i64 m]),(27,.bool false)])
  (λi g=>i<=15/\tZ i g) ([],m) ⟨by omega,⟨by simp,by simp,hm,by simp,by simp,by simp⟩⟩ (λi b g hi hl hg=>?_) (λi b g hi hg=>?_) (λg hg=>?_)
 ·refine zN ?_ this;simp[gO]
 ·have uJ:i<15:=by simpa using hl
  obtain⟨at_,iD⟩:∃a,((5+i:Nat):Int)=a:=⟨_,rfl⟩;have eR:at_<20:=by omega
  have hw:IntKind.i64.wrap (at_+1)=at_+1:=bO (by omega) (by omega);have Ft:((5+(i+1):Nat):Int)=at_+1:=by omega
  have u1:=Qr d at_ (by omega);have hin:cg d=true/\(0:Int)<=at_/\at_<=19:=⟨hd,by omega,by omega⟩;rw[ax hin] at u1;have Lj:=Fc d at_;have u2:=Qz (cr d at_) (by omega);have hrl:=GQ (cr d at_);have nG:=GR (cr d at_);have u3:=ZN (cj (cr d at_)).2.1 (by omega);have how:=Uc (cj (cr d at_)).2.1;have mJ:=hg.2.n;have FC:(gO Kp.seq g.1).length<=15:=by rw[(IB Kp.seq g.1).length_eq];omega
  unfold qB;rw[iD,Ft];clear iD Ft;generalize cj (cr d at_)=rr at u2 u3 hrl nG how⊢;obtain⟨n,bd,ok⟩:=rr;simp only at u2 u3 hrl nG how⊢;generalize ig bd=br at u3 how⊢;obtain⟨⟨op,on,ov,⟨rs,rf,rb⟩,ot⟩,ug⟩:=br;simp only at how;have u5:=J7 bs ⟨op,on,ov,⟨rs,rf,rb⟩,ot⟩ (by omega) (by omega);have u6:=ZT (gO Kp.seq g.1) ⟨⟨op,on,ov,⟨rs,rf,rb⟩,ot⟩,at_,n⟩ FC;rw[<-aiC] at u6;have A1:max g.2 n=if n<g.2 then g.2 else n:=by split<;>omega
  simp only at u5⊢;generalize fu bs ⟨op,on,ov,⟨rs,rf,rb⟩,ot⟩=hb at u5⊢;obtain⟨g1,g2⟩:=g;simp only at u6 A1⊢;simp at u1 u2 u3 u5 u6;cases ok;·simp -implicitDefEqProofs [qO,vB,eR,hw,u1,u2,u3]
  cases ug;·simp -implicitDefEqProofs [qO,vB,eR,hw,u1,u2,u3]
  by_cases gq:n<100000;rotate_left
  ·have qd:100000<=n:=by omega
   simp -implicitDefEqProofs [qO,vB,eR,hw,u1,u2,u3,gq,qd]
  have qd:¬100000<=n:=by omega
  cases hb;·simp -implicitDefEqProofs [qO,vB,eR,hw,u1,u2,u3,u5,u6,gq,qd,A1]
  ·simp -implicitDefEqProofs [qO,vB,eR,hw,u1,u2,u3,u5,gq,qd,A1]
 ·have uJ:i<15:=by have:=(aJ.1 hi).1;simpa using this
  exact⟨by omega,Mu bs d uJ b hg.2⟩
 ·simp -implicitDefEqProofs [qO,vB]
def ZL(d:aV)(hwd:bC d<=16777216):ev LI TT 119 [.agg (bW .af d)]=some (.agg (aG .own (sS d)),[.dead]):=by
 rw[au (b:=CA) (rs:=[.c 2 6 true 31]) (n:=1) rfl rfl];have Bb:bC d=wL wS d.cells+wL cY d.pending:=rfl;have l1:=bh (w:=wS) d.cells;have l2:=bh (w:=cY) d.pending;unfold sS;have u1:=uh d (by omega);try simp at u1
 have u2:=Ez d (by omega) (by omega);try simp at u2
 by_cases g:cg d=true;rotate_left;·have u3:=QB;rw[show cg d=false by simpa using g] at u1⊢;simp at u1 u3;simp -implicitDefEqProofs [CA,u1,u3]
 have B:=B2 d;have u3:=ZS d g hwd;have u4:=Yl d (dH d).1 (dH d).2 g hwd (Mq d) B.2.2;have u5:=Ym d (dH d).1 ((gK d).2+1) (fe d) (Mo d) (λk hk=>(B1 hk).1);have O:=(xW d).m;have hw:IntKind.i64.wrap ((gK d).2+1)=(gK d).2+1:=bO (by omega) (by omega);rw[show k6 (dH d).1 d (dH d).2=gK d from rfl,show gO Kp.seq (gK d).1=fe d from rfl] at u4;have e:iG d=⟨d,(kZ (fe d)).1,(dH d).1,(kZ (fe d)).2,(gK d).2+1⟩:=rfl;rw[g] at u1;rw[g,ax rfl,e];clear e B O;generalize kZ (fe d)=lk at u5⊢;generalize fe d=all at u4 u5;generalize gK d=od at u4 u5 hw⊢;generalize dH d=mb at u3 u4 u5⊢;obtain⟨ai,nx⟩:=lk;obtain⟨od1,od2⟩:=od;obtain⟨bs,ms⟩:=mb;simp at u1 u2 u3 u4 u5;simp -implicitDefEqProofs [CA,u1,u2,u3,u4,u5,hw];all_goals (repeat' split)<;>first|rfl|omega|simp_all<;>omega|skip
end M
set_option maxHeartbeats 4000000
namespace M
open Go
def GD(d:aV):aZ (iG d)<=bC d+25000:=by have h1:=Mq d;have h2:wL aX (iV (fe d))<=15*(1300+1):=pM (λk hk=>sY (B1 ((vf _).subset hk)).1.o) (jF (vf _).length_le (Mo d));show bC d+wL aX (iV (fe d))+wL aO (dH d).1<=_;omega
end M
namespace M
open Go
end M
set_option maxHeartbeats 4000000
namespace M
open Go
end M
set_option maxHeartbeats 4000000
namespace M
open Go
end M
set_option maxHeartbeats 4000000
namespace M
open Go
end M
set_option maxHeartbeats 4000000
namespace M
open Go
def eZ(d:aV)(keep:List Bool):aV:=⟨mP (fH keep false) d.cells d.pending,[]⟩
def EI{d:aV}(keep:List Bool)(h:cg d=true):cg (eZ d keep)=true:=by obtain⟨h0,h1,h1'⟩:=fR h;have:=Tx (fH keep false) d.cells d.pending;unfold cg eZ;simp only[this,h1];rfl
def PA(d:aV)(keep:List Bool)(hb:d.pending.length<=9223372036854775807)(ho:Ee d.pending)(hk:keep.length<=9223372036854775807)(cs:List ag)(hinv:cs.length=20):aI (ak (ev LI TT) (aq TT) xF) [(1,.row .af 1 (keep.map eB)),(2,.ptr .own (bW .af d)),(4,.ptr .own [.row .own 1 [],.row .own 2 []]),(5,.ptr .own [.row .own 1 ((cs).map eS),.row .own 2 []]),(16,.az 2 [] 0 1),(17,.row .af 2 (d.pending.map eW)),(18,.int .i64 d.pending.length),(19,.int .i64 0)]=some (.exit 0,[(1,.row .af 1 (keep.map eB)),(2,.ptr .own (bW .af d)),(4,.ptr .own [.row .own 1 [],.row .own 2 []]),(5,.ptr .own [.row .own 1 (((foldI (fO (fH keep false)) 0 (d.pending) cs)).map eS),.row .own 2 []]),(16,.az 2 [] 0 1),(17,.row .af 2 (d.pending.map eW)),(18,.int .i64 d.pending.length),(19,.int .i64 (d.pending).length),(20,.bool false)]):=by
 refine fP (f:=ak (ev LI TT) (aq TT) xF) (d.pending) (λi (cs:List ag)=>[(1,.row .af 1 (keep.map eB)),(2,.ptr .own (bW .af d)),(4,.ptr .own [.row .own 1 [],.row .own 2 []]),(5,.ptr .own [.row .own 1 ((cs).map eS),.row .own 2 []]),(16,.az 2 [] 0 1),(17,.row .af 2 (d.pending.map eW)),(18,.int .i64 d.pending.length),(19,.int .i64 i)]) (fO (fH keep false)) (λcs=>[(1,.row .af 1 (keep.map eB)),(2,.ptr .own (bW .af d)),(4,.ptr .own [.row .own 1 [],.row .own 2 []]),(5,.ptr .own [.row .own 1 ((cs).map eS),.row .own 2 []]),(16,.az 2 [] 0 1),(17,.row .af 2 (d.pending.map eW)),(18,.int .i64 d.pending.length),(19,.int .i64 (d.pending).length),(20,.bool false)]) (λi (cs:List ag)=>cs.length=20) cs hinv (λi b cs hi hl hinv=>?_) (λi b cs hi hinv=>?_) (λcs hinv=>?_)
 ·have hw:=aU i (by first|omega|(simp at hl;omega));obtain⟨_,rfl⟩:=aJ.1 hi;have h1:=ho _ (cq hl);have h2:(d.pending[i]).at_.toNat<cs.length:=by omega
  by_cases h4:i<keep.length;rotate_left;·simp -implicitDefEqProofs [xF,FF,hl,hw,h1,h2,fO,fH,h4]
  cases h5:keep[i];all_goals
  simp -implicitDefEqProofs [xF,FF,hl,hw,h1,h2,fO,fH,h4,h5]
 ·rw[BT];exact hinv
 ·simp -implicitDefEqProofs [xF,FF]
def JW(d:aV)(keep:List Bool)(h:cg d=true)(hk:keep.length<=9223372036854775807):ev LI TT 16 [.agg (bW .af d),.row .af 1 (keep.map eB)]=some (.agg (bW .own (eZ d keep)),[.dead,.dead]):=by
 rw[au (b:=FG) (rs:=[.c 4 2 true 27]) (n:=2) rfl rfl];obtain⟨h0,h1,h1'⟩:=fR h;have u2:=PA d keep (by omega) h0 hk d.cells h1;try simp at u2
 have u1:=JX d (by omega);try simp at u1
 have u2:=Gs d.cells (by omega);try simp at u2
 rw[h] at u1;have v2:=PA d keep (by omega) h0 hk d.cells h1;try simp at v2
 simp -implicitDefEqProofs [FG,u1,u2,v2,eZ,mP];all_goals (repeat' split)<;>first|rfl|omega|simp_all<;>omega|skip
def ZG(d:aV)(keep:List Bool)(h:cg d=true)(hk:keep.length<=9223372036854775807):ev LI TT 120 [.agg (bW .af d),.row .af 1 (keep.map eB)]=some (.agg (bW .own (eZ d keep)),[.dead,.dead]):=by
 rw[au (b:=G0) (rs:=[.c 4 2 true 27]) (n:=2) rfl rfl];obtain⟨h0,h1,h1'⟩:=fR h;unfold eZ;have u1:=uh d (by omega);try simp at u1
 have u2:=QD d keep false h hk;try simp at u2
 rw[h] at u1;simp -implicitDefEqProofs [G0,u1,u2];all_goals (repeat' split)<;>first|rfl|omega|simp_all<;>omega|skip
def EJ(d:aV)(keep:List Bool):bC (eZ d keep)<=bC d:=by have h:=KQ (fH keep false) d.pending 0 d.cells;show wL wS (mP (fH keep false) d.cells d.pending)+wL cY []<=wL wS d.cells+wL cY d.pending;have e:wL cY []=0:=rfl;unfold mP;omega
end M
set_option maxHeartbeats 4000000
namespace M
open Go
end M
set_option maxHeartbeats 4000000
namespace M
open Go
end M
set_option maxHeartbeats 4000000
namespace M
open Go
end M
set_option maxHeartbeats 4000000
namespace M
open Go
def Xp(ks:List Kp)(hb:wL aX ks<=1073741824):aI (ak (ev LI TT) (aq TT) BM) [(0,.row .af 9 (ks.map (aj .af))),(3,.row .own 9 (([]).map (aj .own))),(6,.row .af 9 (ks.map (aj .af))),(7,.int .i64 ks.length),(8,.int .i64 0)]=some (.exit 0,[(0,.row .af 9 (ks.map (aj .af))),(3,.row .own 9 ((((ks).flatMap (λk=>[k]))).map (aj .own))),(6,.row .af 9 (ks.map (aj .af))),(7,.int .i64 ks.length),(8,.int .i64 (ks).length),(9,.bool false)]):=by
 refine oO (f:=ak (ev LI TT) (aq TT) BM) (ks) (λk=>[k]) (λi out=>[(0,.row .af 9 (ks.map (aj .af))),(3,.row .own 9 ((out).map (aj .own))),(6,.row .af 9 (ks.map (aj .af))),(7,.int .i64 ks.length),(8,.int .i64 i)]) (λout=>[(0,.row .af 9 (ks.map (aj .af))),(3,.row .own 9 ((out).map (aj .own))),(6,.row .af 9 (ks.map (aj .af))),(7,.int .i64 ks.length),(8,.int .i64 (ks).length),(9,.bool false)]) (λi b out hi hl hout=>?_) (λout hout=>?_)
 ·have hw:=aU i (by have:=bh (w:=aX) ks;omega);obtain⟨_,rfl⟩:=aJ.1 hi;have hlk:=bh (w:=aX) ks;have hm:=qY (cq hl);have hlo:out.length=i:=by rw[hout];exact xj (λk=>k) _ _ (by omega)
  have hlz:(i+1)*136<=140737488355328:=by omega
  have u1:=Qj (ks[i]).obj (by omega);try simp at u1
  simp -implicitDefEqProofs [BM,L0,hl,hw,u1,hlo,hlz,bJ]
 ·simp -implicitDefEqProofs [BM,L0]
def Zv(ks:List Kp)(hb:wL aX ks<=1073741824):ev LI TT 65 [.row .af 9 (ks.map (aj .af))]=some (.row .own 9 (ks.map (aj .own)),[.dead]):=by
 rw[au (b:=F6) (rs:=[.t 2]) (n:=1) rfl rfl];have u1:=Xp ks hb;try simp at u1
 simp -implicitDefEqProofs [F6,u1];all_goals (repeat' split)<;>first|rfl|omega|simp_all<;>omega|skip
def Qk(s:Sh)(hb:aZ s<=1073741824):ev LI TT 22 [.agg (aG .af s)]=some (.agg (aG .own s),[.dead]):=by
 rw[au (b:=F9) (rs:=[.c 2 6 true 31]) (n:=1) rfl rfl];have dc:aZ s=bC s.aD+wL aX s.ai+wL aO s.ay:=rfl;have Bb:bC s.aD=wL wS s.aD.cells+wL cY s.aD.pending:=rfl;have l1:=bh (w:=wS) s.aD.cells;have l2:=bh (w:=cY) s.aD.pending;have l3:=bh (w:=aO) s.ay;have u1:=Qi s.aD (by omega) (by omega);try simp at u1
 have u2:=Zv s.ai (by omega);try simp at u2
 have u3:=afA s.ay (by omega);try simp at u3
 simp -implicitDefEqProofs [F9,u1,u2,u3];all_goals (repeat' split)<;>first|rfl|omega|simp_all<;>omega|skip
def X2(s:Sh)(hb:aZ s<=1073741824):aI (ak (ev LI TT) (aq TT) CY) [(1,.ptr .own (aG .af s)),(2,.ptr .own [.row .own 1 [],.row .own 2 [],.row .own 9 [],.row .own 4 [],.int .i64 0,.int .i64 0]),(3,.ptr .own [.row .own 1 (s.aD.cells.map eS),.row .own 2 (s.aD.pending.map eW),.row .own 9 (([]).map (aj .own)),.row .own 4 (s.ay.map aY),.int .i64 s.next,.int .i64 s.seq]),(4,.int .i64 0)]=some (.exit 0,[(1,.ptr .own (aG .af s)),(2,.ptr .own [.row .own 1 [],.row .own 2 [],.row .own 9 [],.row .own 4 [],.int .i64 0,.int .i64 0]),(3,.ptr .own [.row .own 1 (s.aD.cells.map eS),.row .own 2 (s.aD.pending.map eW),.row .own 9 ((((s.ai).flatMap (λk=>[k]))).map (aj .own)),.row .own 4 (s.ay.map aY),.int .i64 s.next,.int .i64 s.seq]),(4,.int .i64 (s.ai).length),(21,.bool false)]):=by
 refine oO (f:=ak (ev LI TT) (aq TT) CY) (s.ai) (λk=>[k]) (λi out=>[(1,.ptr .own (aG .af s)),(2,.ptr .own [.row .own 1 [],.row .own 2 [],.row .own 9 [],.row .own 4 [],.int .i64 0,.int .i64 0]),(3,.ptr .own [.row .own 1 (s.aD.cells.map eS),.row .own 2 (s.aD.pending.map eW),.row .own 9 ((out).map (aj .own)),.row .own 4 (s.ay.map aY),.int .i64 s.next,.int .i64 s.seq]),(4,.int .i64 i)]) (λout=>[(1,.ptr .own (aG .af s)),(2,.ptr .own [.row .own 1 [],.row .own 2 [],.row .own 9 [],.row .own 4 [],.int .i64 0,.int .i64 0]),(3,.ptr .own [.row .own 1 (s.aD.cells.map eS),.row .own 2 (s.aD.pending.map eW),.row .own 9 ((out).map (aj .own)),.row .own 4 (s.ay.map aY),.int .i64 s.next,.int .i64 s.seq]),(4,.int .i64 (s.ai).length),(21,.bool false)]) (λi b out hi hl hout=>?_) (λout hout=>?_)
 ·have hw:=aU i (by have dc:aZ s=bC s.aD+wL aX s.ai+wL aO s.ay:=rfl;have:=bh (w:=aX) s.ai;omega);obtain⟨_,rfl⟩:=aJ.1 hi;have dc:aZ s=bC s.aD+wL aX s.ai+wL aO s.ay:=rfl;have hlk:=bh (w:=aX) s.ai;have hm:=qY (cq hl);have hlo:out.length=i:=by rw[hout];exact xj (λk=>k) _ _ (by omega)
  have hlz:(i+1)*136<=140737488355328:=by omega
  have u1:=Ew (s.ai[i]).obj (by omega);try simp at u1
  simp -implicitDefEqProofs [CY,NH,hl,hw,u1,hlo,hlz,bJ]
 ·simp -implicitDefEqProofs [CY,NH]
def aim(l:List Bn):eC (l.map aY)=true:=by induction l<;>simp_all[eC,scalar]
def QF(s:Sh)(hb:aZ s<=1073741824):ev LI TT 28 [.agg (aG .af s)]=some (.agg (aG .own s),[.dead]):=by
 rw[au (b:=HL) (rs:=[.c 2 6 true 31]) (n:=1) rfl rfl];have dc:aZ s=bC s.aD+wL aX s.ai+wL aO s.ay:=rfl;have Bb:bC s.aD=wL wS s.aD.cells+wL cY s.aD.pending:=rfl;have l1:=bh (w:=wS) s.aD.cells;have l2:=bh (w:=cY) s.aD.pending;have l3:=bh (w:=aO) s.ay;have u1:=Ez s.aD (by omega) (by omega);try simp at u1
 have u2:=X2 s hb;try simp at u2
 simp -implicitDefEqProofs [HL,u1,u2,aim,rowAt,(by omega:s.ay.length*48<=140737488355328),NI,CZ,HR,NS,yV,C4,NU,C5,HW,C6,HM,HN,NJ,C0,HO,HP,NK,HQ,NL,NM,C3,HS,HT,NN,HU,NO,NP,HV,NQ,NR,NT];all_goals (repeat' split)<;>first|rfl|omega|simp_all<;>omega|skip
end M
set_option maxHeartbeats 4000000
namespace M
open Go
structure Pl (A:List X):Prop where
 o:∀ks,X.nV ks A=A
 k:∀r p,X.gI r p A=A
 m:X.dJ .af A=A
 b:X.bare.jl A=true
def l6(z:X)(s:Sh):List X:=[.row .af 1 (s.aD.cells.map eS),.row .af 2 (s.aD.pending.map eW),z,.row .af 4 (s.ay.map aY),.int .i64 s.next,.int .i64 s.seq]
def Zo(k:Kp)(z:X)(s:Sh)(o:Ob)(hk:bG k.obj<=1073741824)(ho:bG o<=1073741824):ev LI TT 70 [.agg (aj .af k),.ptr .af [.ptr .af (l6 z s)],.ptr .af (aW .af o)]=some (.bool (decide (k.at_=s.next)||fJ k.obj o),[.dead,.dead,.dead]):=by
 rw[au (b:=FQ) (rs:=[.t 4]) (n:=3) rfl rfl];have u1:=Qm k.obj o hk ho;try simp at u1
 by_cases g:k.at_=s.next
 all_goals
 simp -implicitDefEqProofs [FQ,u1,g,l6];all_goals (repeat' split)<;>first|rfl|omega|simp_all<;>omega|skip
def Zm(k:Kp)(z:X)(s:Sh)(hk:bG k.obj<=1073741824)(hs:wL aO s.ay<=1073741824):ev LI TT 102 [.agg (aj .af k),.ptr .af [.ptr .af (l6 z s)]]=some (.bool (fu s.ay k.obj),[.dead,.dead]):=by
 rw[au (b:=FP) (rs:=[.t 3]) (n:=2) rfl rfl];have u1:=JZ s.ay k.obj hs hk;try simp at u1
 simp -implicitDefEqProofs [FP,u1,l6];all_goals (repeat' split)<;>first|rfl|omega|simp_all<;>omega|skip
def W6(l:List Kp)(A:List X)(hA:Pl A)(gf:Nat)(p:Kp->Bool)(ho:aq TT gf=true)(hf:∀x∈l,ev LI TT gf [.agg (aj .af x),.ptr .af A]=some (.bool (p x),[.dead,.dead]))(hb:l.length<=9223372036854775807):aI (ak (ev LI TT) (aq TT) mh) [(0,.row .af 9 (l.map (aj .af))),(1,.fn gf [.ptr .af A]),(7,.int .i64 l.length),(8,.int .i64 0)]=(cL p 0 (l)).elim (some (.exit 0,[(0,.row .af 9 (l.map (aj .af))),(1,.fn gf [.ptr .af A]),(7,.int .i64 l.length),(8,.int .i64 (l).length),(9,.bool false)])) λx=>some (.ret,(λ(i:Nat) b=>[(4,.int .i64 i)]) x.1 x.2):=by
 refine vg (f:=ak (ev LI TT) (aq TT) mh) (l) (λi=>[(0,.row .af 9 (l.map (aj .af))),(1,.fn gf [.ptr .af A]),(7,.int .i64 l.length),(8,.int .i64 i)]) p (λ(i:Nat) b=>[(4,.int .i64 i)]) _ (λi b hi hl=>?_) ?_
 ·have hw:=aU i (by first|omega|(simp at hl;omega));obtain⟨_,rfl⟩:=aJ.1 hi;have u1:=hf l[i] (cq hl);try simp at u1
  simp -implicitDefEqProofs [mh,wq,hl,hw,u1,ho,mN,hA.o,hA.k,hA.m,hA.b];all_goals (repeat' split)<;>first|rfl|omega|simp_all<;>omega|skip
 ·simp -implicitDefEqProofs [mh,wq,hA.o,hA.k,hA.m,hA.b]
def W7(l:List Kp)(A B:List X)(hA:Pl A)(hB:Pl B)(gf:Nat)(p:Kp->Bool)(ho:aq TT gf=true)(hf:∀x∈l,ev LI TT gf [.agg (aj .af x),.ptr .af A,.ptr .af B]=some (.bool (p x),[.dead,.dead,.dead]))(hb:l.length<=9223372036854775807):aI (ak (ev LI TT) (aq TT) mh) [(0,.row .af 9 (l.map (aj .af))),(1,.fn gf [.ptr .af A,.ptr .af B]),(7,.int .i64 l.length),(8,.int .i64 0)]=(cL p 0 (l)).elim (some (.exit 0,[(0,.row .af 9 (l.map (aj .af))),(1,.fn gf [.ptr .af A,.ptr .af B]),(7,.int .i64 l.length),(8,.int .i64 (l).length),(9,.bool false)])) λx=>some (.ret,(λ(i:Nat) b=>[(4,.int .i64 i)]) x.1 x.2):=by
 refine vg (f:=ak (ev LI TT) (aq TT) mh) (l) (λi=>[(0,.row .af 9 (l.map (aj .af))),(1,.fn gf [.ptr .af A,.ptr .af B]),(7,.int .i64 l.length),(8,.int .i64 i)]) p (λ(i:Nat) b=>[(4,.int .i64 i)]) _ (λi b hi hl=>?_) ?_
 ·have hw:=aU i (by first|omega|(simp at hl;omega));obtain⟨_,rfl⟩:=aJ.1 hi;have u1:=hf l[i] (cq hl);try simp at u1
  simp -implicitDefEqProofs [mh,wq,hl,hw,u1,ho,mN,hA.o,hA.k,hA.m,hA.b,hB.o,hB.k,hB.m,hB.b];all_goals (repeat' split)<;>first|rfl|omega|simp_all<;>omega|skip
 ·simp -implicitDefEqProofs [mh,wq,hA.o,hA.k,hA.m,hA.b,hB.o,hB.k,hB.m,hB.b]
def Y8(l:List Kp)(A:List X)(hA:Pl A)(gf:Nat)(p:Kp->Bool)(ho:aq TT gf=true)(hf:∀x∈l,ev LI TT gf [.agg (aj .af x),.ptr .af A]=some (.bool (p x),[.dead,.dead]))(hb:l.length<=9223372036854775807):ev LI TT 132 [.row .af 9 (l.map (aj .af)),.fn gf [.ptr .af A]]=some (.int .i64 ((cL p 0 l).elim (-1) λx=>(x.1:Int)),[.dead,.dead]):=by
 rw[au (b:=og) (rs:=[.t 4]) (n:=2) rfl rfl];have u1:=W6 l A hA gf p ho hf hb;try simp at u1
 cases g:cL p 0 l with
 |none=>rw[g] at u1;simp at u1;simp -implicitDefEqProofs [og,u1,hA.o,hA.k,hA.m,hA.b]
 |some x=>
 rw[g] at u1;simp at u1;simp -implicitDefEqProofs [og,u1,hA.o,hA.k,hA.m,hA.b];all_goals (repeat' split)<;>first|rfl|omega|simp_all<;>omega|skip
def Y9(l:List Kp)(A B:List X)(hA:Pl A)(hB:Pl B)(gf:Nat)(p:Kp->Bool)(ho:aq TT gf=true)(hf:∀x∈l,ev LI TT gf [.agg (aj .af x),.ptr .af A,.ptr .af B]=some (.bool (p x),[.dead,.dead,.dead]))(hb:l.length<=9223372036854775807):ev LI TT 132 [.row .af 9 (l.map (aj .af)),.fn gf [.ptr .af A,.ptr .af B]]=some (.int .i64 ((cL p 0 l).elim (-1) λx=>(x.1:Int)),[.dead,.dead]):=by
 rw[au (b:=og) (rs:=[.t 4]) (n:=2) rfl rfl];have u1:=W7 l A B hA hB gf p ho hf hb;try simp at u1
 cases g:cL p 0 l with
 |none=>rw[g] at u1;simp at u1;simp -implicitDefEqProofs [og,u1,hA.o,hA.k,hA.m,hA.b,hB.o,hB.k,hB.m,hB.b]
 |some x=>
 rw[g] at u1;simp at u1;simp -implicitDefEqProofs [og,u1,hA.o,hA.k,hA.m,hA.b,hB.o,hB.k,hB.m,hB.b];all_goals (repeat' split)<;>first|rfl|omega|simp_all<;>omega|skip
end M
set_option maxHeartbeats 400000
namespace M
open Go
def WY(A:List X)(hA:Pl A)(B:List X)(hB:Pl B)(gf:Nat)(p:Kp->Bool)(ho:aq TT gf=true)(T:List (List X))(v:Kp)(n f:Nat)(uG:n<T.length)(hv:T[n]=aj .own v)(hfn:f<n)(u:Kp)(hF:T[f]=aj .own u\/T[f]=bV u)(hb:T.length<=1073741824)(hf:ev LI TT gf [.agg (aj .af v),.ptr .af A,.ptr .af B]=some (.bool (p v),[.dead,.dead,.dead])):ak (ev LI TT) (aq TT) kG [(0,.ref 100000 []),(1,.fn gf [.ptr .af A,.ptr .af B]),(5,.int .i64 (f:Nat)),(6,.int .i64 ((n:Nat):Int)),(100000,.row .own 9 T)]=some (.normal,[(0,.ref 100000 []),(1,.fn gf [.ptr .af A,.ptr .af B]),(5,.int .i64 ((if p v=true then f else f+1:Nat):Int)),(6,.int .i64 ((n+1:Nat):Int)),(100000,.row .own 9 (if p v=true then T.set n (bV v) else (T.set n (bV v)).set f (aj .own v)))]):=by
 have hw:=aU n (by omega);have dr:=aU f (by omega);have hm:=mR T n _ (aJ.2 ⟨uG,hv⟩);try simp at hf hv hm
 have AX:f<T.length:=by omega
 cases hp:p v
 ·rw[hp] at hf;have hne:¬n=f:=by omega
  have uN:¬f=n:=by omega
  have hm2:∀u',T[f]=u'->∀w g,(T.set n w).modify f g=(T.set n w).set f (g u'):=λu' h w g=>mR _ f _ (by simp[ru,hne,AX,h]) g;rcases hF with hF|hF;all_goals simp[bV] at hF
  all_goals have Lp:=hm2 _ hF
  all_goals clear hm2
  all_goals simp -implicitDefEqProofs [kG,wo,hw,dr,uG,hv,hf,hF,AX,hne,uN,hm,Lp,kE,ho,mN,hA.o,hA.k,hA.m,hA.b,hB.o,hB.k,hB.m,hB.b,hp,bV]
 ·simp -implicitDefEqProofs [kG,wo,hw,dr,uG,hv,hf,hm,kE,ho,mN,hA.o,hA.k,hA.m,hA.b,hB.o,hB.k,hB.m,hB.b,hp,bV]
def kP{α β:Type}(p:α->Bool)(d:α->β)(g:List α×List β)(v:α):List α×List β:=if p v=true then (g.1,g.2++[d v]) else (g.1++[v],g.2.tail++[d v])
def Ku{α β:Type}(p:α->Bool)(d:α->β):∀(l:List α) (i:Nat) (g:List α×List β),(foldI (λ_ g v=>kP p d g v) i l g).1=g.1++l.filter (λv=> !p v)
 |[],i,g=>by simp[foldI]
 |v::l,i,g=>by rw[foldI,Ku p d l];unfold kP;cases h:p v<;>simp[h]
structure DX {α β:Type} (e d:α->β) (n:Nat) (g:List α×List β):Prop where
 n:g.1.length+g.2.length=n
 m:1<=g.2.length
 r:∀x∈g.2,∃u,x=e u\/x=d u
def DX.go{α β:Type}{e d:α->β}{n:Nat}{g:List α×List β}(h:DX e d n g)(p:α->Bool)(v:α):DX e d (n+1) (kP p d g v):=by
 obtain⟨F,M⟩:=g;have hn:=h.n;have hm:=h.m;have hr:=h.r;simp at hn hm hr;unfold kP;split
 ·refine⟨by simp;omega,by simp,λx hx=>?_⟩;rcases dy.1 hx with hx|hx;·exact hr x hx
  ·exact⟨v,.inr (by simpa using hx)⟩
 ·refine⟨by simp;omega,by simp,λx hx=>?_⟩;rcases dy.1 hx with hx|hx;·exact hr x (Wx hx)
  ·exact⟨v,.inr (by simpa using hx)⟩
def DX.row{α β:Type}{e d:α->β}{n:Nat}{g:List α×List β}(h:DX e d n g)(p:α->Bool)(v:α)(R T:List β)(hT:T=g.1.map e++g.2++e v::R):T.length=n+1+R.length/\T[n]?=some (e v)/\g.1.length<n/\(∃u,T[g.1.length]?=some (e u)\/T[g.1.length]?=some (d u))/\(if p v=true then T.set n (d v) else (T.set n (d v)).set g.1.length (e v))=(kP p d g v).1.map e++(kP p d g v).2++R/\(if p v=true then g.1.length else g.1.length+1)=(kP p d g v).1.length:=by
 obtain⟨F,M⟩:=g;have hn:=h.n;have hm:=h.m;have hr:=h.r;simp at hn hm hr hT⊢;subst hT;obtain⟨a,M',rfl⟩:∃a M',M=a::M':=by cases M with|nil=>simp at hm|cons a M=>exact⟨_,_,rfl⟩
 have e1:n=(F.map e).length+(a::M').length:=by simp;simp at hn;omega
 have e2:F.length=(F.map e).length:=by simp
 obtain⟨u,hu⟩:=hr a (by simp);refine⟨by simp at hn⊢;omega,?_,by simp at hn;omega,⟨u,?_⟩,?_,?_⟩;·rw[e1,<-eu,<-mz];simp
 ·rw[e2];rcases hu with rfl|rfl<;>simp
 ·have s1:∀w,(F.map e++(a::M'++e v::R)).set n w=F.map e++(a::M'++w::R):=by intro w;rw[e1];simp[List.set_append,oh,Nat.add_sub_cancel]
  rw[s1];unfold kP;cases hp:p v;·simp only[hp,fD,dQ];rw[e2,DM _ _ (ek _)];simp
  ·simp
 ·unfold kP;cases hp:p v<;>simp
def DX.fold{α β:Type}{e d:α->β}(p:α->Bool):∀(l:List α) (i:Nat) {n:Nat} {g:List α×List β},DX e d n g->DX e d (n+l.length) (foldI (λ_ g v=>kP p d g v) i l g)
 |[],i,n,g,h=>h
 |v::l,i,n,g,h=>by have:=DX.fold p l (i+1) (h.go p v);rw[foldI,cw,show n+(l.length+1)=n+1+l.length by omega];exact this
def WU(A:List X)(hA:Pl A)(B:List X)(hB:Pl B)(gf:Nat)(T:List (List X))(n f:Nat)(hn:T.length=n):ak (ev LI TT) (aq TT) kG [(0,.ref 100000 []),(1,.fn gf [.ptr .af A,.ptr .af B]),(5,.int .i64 (f:Nat)),(6,.int .i64 ((n:Nat):Int)),(100000,.row .own 9 T)]=some (.exit 0,[(0,.ref 100000 []),(1,.fn gf [.ptr .af A,.ptr .af B]),(5,.int .i64 (f:Nat)),(6,.int .i64 ((n:Nat):Int)),(19,.bool false),(100000,.row .own 9 T)]):=by subst hn;simp -implicitDefEqProofs [kG,wo,hA.o,hA.k,hA.m,hA.b,hB.o,hB.k,hB.m,hB.b]
def WW(A:List X)(hA:Pl A)(B:List X)(hB:Pl B)(gf:Nat)(p:Kp->Bool)(ho:aq TT gf=true)(l:List Kp)(hf:∀x∈l,ev LI TT gf [.agg (aj .af x),.ptr .af A,.ptr .af B]=some (.bool (p x),[.dead,.dead,.dead]))(hb:l.length<=1073741824)(i0:Nat)(hi0:i0<l.length)(g:List Kp×List (List X))(hg:DX (aj .own) bV (i0+1) g):∃g':List Kp×List (List X),g'.1=g.1++(l.drop (i0+1)).filter (λv=> !p v)/\DX (aj .own) bV l.length g'/\aI (ak (ev LI TT) (aq TT) kG) [(0,.ref 100000 []),(1,.fn gf [.ptr .af A,.ptr .af B]),(5,.int .i64 ((g.1.length:Nat):Int)),(6,.int .i64 ((i0+1:Nat):Int)),(100000,.row .own 9 (g.1.map (aj .own)++g.2++(l.drop (i0+1)).map (aj .own)))]=some (.exit 0,[(0,.ref 100000 []),(1,.fn gf [.ptr .af A,.ptr .af B]),(5,.int .i64 ((g'.1.length:Nat):Int)),(6,.int .i64 (l.length:Nat)),(19,.bool false),(100000,.row .own 9 (g'.1.map (aj .own)++g'.2))]):=by
 have hd:(l.drop (i0+1)).length+(i0+1)=l.length:=by rw[mA];omega
 refine⟨foldI (λ_ g v=>kP p bV g v) 0 (l.drop (i0+1)) g,Ku ..,?_,?_⟩;·have:=DX.fold p (l.drop (i0+1)) 0 hg;rwa [show i0+1+(l.drop (i0+1)).length=l.length by omega] at this
 ·refine fP (f:=ak (ev LI TT) (aq TT) kG) (l.drop (i0+1)) (λi (g:List Kp×List (List X))=>[(0,.ref 100000 []),(1,.fn gf [.ptr .af A,.ptr .af B]),(5,.int .i64 ((g.1.length:Nat):Int)),(6,.int .i64 ((i0+1+i:Nat):Int)),(100000,.row .own 9 (g.1.map (aj .own)++g.2++(l.drop (i0+1+i)).map (aj .own)))]) (λ_ g v=>kP p bV g v) (λg=>[(0,.ref 100000 []),(1,.fn gf [.ptr .af A,.ptr .af B]),(5,.int .i64 ((g.1.length:Nat):Int)),(6,.int .i64 (l.length:Nat)),(19,.bool false),(100000,.row .own 9 (g.1.map (aj .own)++g.2))]) (λi g=>DX (aj .own) bV (i0+1+i) g) g hg (λi b g hi hl hinv=>?_) (λi b g hi hinv=>?_) (λg hinv=>?_)
  ·obtain⟨hl',rfl⟩:=aJ.1 hi;have kr:i0+1+i<l.length:=by rw[mA] at hl';omega
   have iR:(l.drop (i0+1))[i]=l[i0+1+i]:=by rw[List.getElem_drop]
   have e:l.drop (i0+1+i)=l[i0+1+i]::l.drop (i0+1+(i+1)):=by rw[nr kr];rfl
   obtain⟨r1,r2,r3,⟨u,r4⟩,r5,r6⟩:=hinv.row p l[i0+1+i] ((l.drop (i0+1+(i+1))).map (aj .own)) (g.1.map (aj .own)++g.2++(l.drop (i0+1+i)).map (aj .own)) (by rw[e,bn]);rw[iR];obtain⟨q1,q2⟩:=aJ.1 r2
   have hr4:∃h:g.1.length<(g.1.map (aj .own)++g.2++(l.drop (i0+1+i)).map (aj .own)).length,(g.1.map (aj .own)++g.2++(l.drop (i0+1+i)).map (aj .own))[g.1.length]=aj .own u\/(g.1.map (aj .own)++g.2++(l.drop (i0+1+i)).map (aj .own))[g.1.length]=bV u:=by
    rcases r4 with r4|r4;·obtain⟨a,b⟩:=aJ.1 r4;exact⟨a,.inl b⟩
    ·obtain⟨a,b⟩:=aJ.1 r4;exact⟨a,.inr b⟩
   obtain⟨_,hr4⟩:=hr4;have hs:=WY A hA B hB gf p ho _ l[i0+1+i] (i0+1+i) g.1.length q1 q2 r3 u hr4 (by rw[r1,cV,mA];omega) (hf _ (cq kr));rw[hs,r5,r6,show i0+1+i+1=i0+1+(i+1) by omega]
  ·exact hinv.go p b
  ·rw[show i0+1+(l.drop (i0+1)).length=l.length by omega] at hinv⊢;rw[O8,jh,lz];exact WU A hA B hB gf _ _ _ (by rw[eu,cV];exact hinv.n)
def RH(hi:Nat)(z:List X)(F M:List (List X))(n:Nat)(hn:n=F.length):(rZ n hi z (F++M)).take n=F:=by
 subst hn;unfold rZ;apply gy;intro j;rw[Pg];split;·rename_i h;rw[zS,kK h,cz h];simp[Nat.not_le_of_lt h]
 ·rename_i h;rw[jG (by omega)]
def RG(n hi:Nat)(z:List X)(T:List (List X)):(rZ n hi z T).length=T.length:=by simp[rZ]
def Y7(l:List Kp)(A B:List X)(hA:Pl A)(hB:Pl B)(gf:Nat)(p:Kp->Bool)(ho:aq TT gf=true)(hf:∀x∈l,ev LI TT gf [.agg (aj .af x),.ptr .af A,.ptr .af B]=some (.bool (p x),[.dead,.dead,.dead]))(hb:l.length<=1073741824):ev LI TT 69 [.row .own 9 (l.map (aj .own)),.fn gf [.ptr .af A,.ptr .af B]]=some (.row .own 9 ((l.filter (λv=> !p v)).map (aj .own)),[.dead,.dead]):=by
 rw[au (b:=tJ) (rs:=[.t 4]) (n:=2) rfl rfl];have u1:=Y9 l A B hA hB gf p ho hf (by omega);cases hg:cL p 0 l with
 |none=>
  rw[hg] at u1;simp at u1;have hl:l.filter (λv=> !p v)=l:=Pb.2 λx hx=>by have:=E3.1 hg x hx;simpa using this
  rw[hl];simp -implicitDefEqProofs [tJ,u1,hA.o,hA.k,hA.m,hA.b,hB.o,hB.k,hB.m,hB.b]
 |some x=>
  obtain⟨i,b⟩:=x;rw[hg] at u1;simp at u1;obtain⟨e,hpb,hq,hfl⟩:=RP hg;obtain⟨_,hi1,_⟩:=qa hg;obtain⟨hi,_⟩:=aJ.1 hi1;rw[Jk] at hi;have hw:=aU i (by omega);obtain⟨g',r1,r2,u2⟩:=WW A hA B hB gf p ho l hf hb i hi (l.take i,[aj .own b]) ⟨by simp;omega,by simp,λx hx=>⟨b,.inl (by simpa using hx)⟩⟩;rw[hfl];have hn:=r2.n
  have e2:(l.take i).map (aj .own)++[aj .own b]++(l.drop (i+1)).map (aj .own)=l.map (aj .own):=by
   conv=>rhs;rw[e]
   simp
  simp only[e2,zF,mq (OV hi)] at u2;dsimp only at r1;rw[<-r1];simp at u2;have ft:=λhi z=>RH hi z (g'.1.map (aj .own)) g'.2 g'.1.length (by simp);simp -implicitDefEqProofs [tJ,u1,u2,hw,sU,RG,ft,hA.o,hA.k,hA.m,hA.b,hB.o,hB.k,hB.m,hB.b];all_goals omega
def WZ(A:List X)(hA:Pl A)(gf:Nat)(p:Kp->Bool)(ho:aq TT gf=true)(T:List (List X))(v:Kp)(n f:Nat)(uG:n<T.length)(hv:T[n]=aj .own v)(hfn:f<n)(u:Kp)(hF:T[f]=aj .own u\/T[f]=bV u)(hb:T.length<=1073741824)(hf:ev LI TT gf [.agg (aj .af v),.ptr .af A]=some (.bool (p v),[.dead,.dead])):ak (ev LI TT) (aq TT) kG [(0,.ref 100000 []),(1,.fn gf [.ptr .af A]),(5,.int .i64 (f:Nat)),(6,.int .i64 ((n:Nat):Int)),(100000,.row .own 9 T)]=some (.normal,[(0,.ref 100000 []),(1,.fn gf [.ptr .af A]),(5,.int .i64 ((if p v=true then f else f+1:Nat):Int)),(6,.int .i64 ((n+1:Nat):Int)),(100000,.row .own 9 (if p v=true then T.set n (bV v) else (T.set n (bV v)).set f (aj .own v)))]):=by
 have hw:=aU n (by omega);have dr:=aU f (by omega);have hm:=mR T n _ (aJ.2 ⟨uG,hv⟩);try simp at hf hv hm
 have AX:f<T.length:=by omega
 cases hp:p v
 ·rw[hp] at hf;have hne:¬n=f:=by omega
  have uN:¬f=n:=by omega
  have hm2:∀u',T[f]=u'->∀w g,(T.set n w).modify f g=(T.set n w).set f (g u'):=λu' h w g=>mR _ f _ (by simp[ru,hne,AX,h]) g;rcases hF with hF|hF;all_goals simp[bV] at hF
  all_goals have Lp:=hm2 _ hF
  all_goals clear hm2
  all_goals simp -implicitDefEqProofs [kG,wo,hw,dr,uG,hv,hf,hF,AX,hne,uN,hm,Lp,kE,ho,mN,hA.o,hA.k,hA.m,hA.b,hp,bV]
 ·simp -implicitDefEqProofs [kG,wo,hw,dr,uG,hv,hf,hm,kE,ho,mN,hA.o,hA.k,hA.m,hA.b,hp,bV]
def WV(A:List X)(hA:Pl A)(gf:Nat)(T:List (List X))(n f:Nat)(hn:T.length=n):ak (ev LI TT) (aq TT) kG [(0,.ref 100000 []),(1,.fn gf [.ptr .af A]),(5,.int .i64 (f:Nat)),(6,.int .i64 ((n:Nat):Int)),(100000,.row .own 9 T)]=some (.exit 0,[(0,.ref 100000 []),(1,.fn gf [.ptr .af A]),(5,.int .i64 (f:Nat)),(6,.int .i64 ((n:Nat):Int)),(19,.bool false),(100000,.row .own 9 T)]):=by subst hn;simp -implicitDefEqProofs [kG,wo,hA.o,hA.k,hA.m,hA.b]
def WX(A:List X)(hA:Pl A)(gf:Nat)(p:Kp->Bool)(ho:aq TT gf=true)(l:List Kp)(hf:∀x∈l,ev LI TT gf [.agg (aj .af x),.ptr .af A]=some (.bool (p x),[.dead,.dead]))(hb:l.length<=1073741824)(i0:Nat)(hi0:i0<l.length)(g:List Kp×List (List X))(hg:DX (aj .own) bV (i0+1) g):∃g':List Kp×List (List X),g'.1=g.1++(l.drop (i0+1)).filter (λv=> !p v)/\DX (aj .own) bV l.length g'/\aI (ak (ev LI TT) (aq TT) kG) [(0,.ref 100000 []),(1,.fn gf [.ptr .af A]),(5,.int .i64 ((g.1.length:Nat):Int)),(6,.int .i64 ((i0+1:Nat):Int)),(100000,.row .own 9 (g.1.map (aj .own)++g.2++(l.drop (i0+1)).map (aj .own)))]=some (.exit 0,[(0,.ref 100000 []),(1,.fn gf [.ptr .af A]),(5,.int .i64 ((g'.1.length:Nat):Int)),(6,.int .i64 (l.length:Nat)),(19,.bool false),(100000,.row .own 9 (g'.1.map (aj .own)++g'.2))]):=by
 have hd:(l.drop (i0+1)).length+(i0+1)=l.length:=by rw[mA];omega
 refine⟨foldI (λ_ g v=>kP p bV g v) 0 (l.drop (i0+1)) g,Ku ..,?_,?_⟩;·have:=DX.fold p (l.drop (i0+1)) 0 hg;rwa [show i0+1+(l.drop (i0+1)).length=l.length by omega] at this
 ·refine fP (f:=ak (ev LI TT) (aq TT) kG) (l.drop (i0+1)) (λi (g:List Kp×List (List X))=>[(0,.ref 100000 []),(1,.fn gf [.ptr .af A]),(5,.int .i64 ((g.1.length:Nat):Int)),(6,.int .i64 ((i0+1+i:Nat):Int)),(100000,.row .own 9 (g.1.map (aj .own)++g.2++(l.drop (i0+1+i)).map (aj .own)))]) (λ_ g v=>kP p bV g v) (λg=>[(0,.ref 100000 []),(1,.fn gf [.ptr .af A]),(5,.int .i64 ((g.1.length:Nat):Int)),(6,.int .i64 (l.length:Nat)),(19,.bool false),(100000,.row .own 9 (g.1.map (aj .own)++g.2))]) (λi g=>DX (aj .own) bV (i0+1+i) g) g hg (λi b g hi hl hinv=>?_) (λi b g hi hinv=>?_) (λg hinv=>?_)
  ·obtain⟨hl',rfl⟩:=aJ.1 hi;have kr:i0+1+i<l.length:=by rw[mA] at hl';omega
   have iR:(l.drop (i0+1))[i]=l[i0+1+i]:=by rw[List.getElem_drop]
   have e:l.drop (i0+1+i)=l[i0+1+i]::l.drop (i0+1+(i+1)):=by rw[nr kr];rfl
   obtain⟨r1,r2,r3,⟨u,r4⟩,r5,r6⟩:=hinv.row p l[i0+1+i] ((l.drop (i0+1+(i+1))).map (aj .own)) (g.1.map (aj .own)++g.2++(l.drop (i0+1+i)).map (aj .own)) (by rw[e,bn]);rw[iR];obtain⟨q1,q2⟩:=aJ.1 r2
   have hr4:∃h:g.1.length<(g.1.map (aj .own)++g.2++(l.drop (i0+1+i)).map (aj .own)).length,(g.1.map (aj .own)++g.2++(l.drop (i0+1+i)).map (aj .own))[g.1.length]=aj .own u\/(g.1.map (aj .own)++g.2++(l.drop (i0+1+i)).map (aj .own))[g.1.length]=bV u:=by
    rcases r4 with r4|r4;·obtain⟨a,b⟩:=aJ.1 r4;exact⟨a,.inl b⟩
    ·obtain⟨a,b⟩:=aJ.1 r4;exact⟨a,.inr b⟩
   obtain⟨_,hr4⟩:=hr4;have hs:=WZ A hA gf p ho _ l[i0+1+i] (i0+1+i) g.1.length q1 q2 r3 u hr4 (by rw[r1,cV,mA];omega) (hf _ (cq kr));rw[hs,r5,r6,show i0+1+i+1=i0+1+(i+1) by omega]
  ·exact hinv.go p b
  ·rw[show i0+1+(l.drop (i0+1)).length=l.length by omega] at hinv⊢;rw[O8,jh,lz];exact WV A hA gf _ _ _ (by rw[eu,cV];exact hinv.n)
def Y6(l:List Kp)(A:List X)(hA:Pl A)(gf:Nat)(p:Kp->Bool)(ho:aq TT gf=true)(hf:∀x∈l,ev LI TT gf [.agg (aj .af x),.ptr .af A]=some (.bool (p x),[.dead,.dead]))(hb:l.length<=1073741824):ev LI TT 69 [.row .own 9 (l.map (aj .own)),.fn gf [.ptr .af A]]=some (.row .own 9 ((l.filter (λv=> !p v)).map (aj .own)),[.dead,.dead]):=by
 rw[au (b:=tJ) (rs:=[.t 4]) (n:=2) rfl rfl];have u1:=Y8 l A hA gf p ho hf (by omega);cases hg:cL p 0 l with
 |none=>
  rw[hg] at u1;simp at u1;have hl:l.filter (λv=> !p v)=l:=Pb.2 λx hx=>by have:=E3.1 hg x hx;simpa using this
  rw[hl];simp -implicitDefEqProofs [tJ,u1,hA.o,hA.k,hA.m,hA.b]
 |some x=>
  obtain⟨i,b⟩:=x;rw[hg] at u1;simp at u1;obtain⟨e,hpb,hq,hfl⟩:=RP hg;obtain⟨_,hi1,_⟩:=qa hg;obtain⟨hi,_⟩:=aJ.1 hi1;rw[Jk] at hi;have hw:=aU i (by omega);obtain⟨g',r1,r2,u2⟩:=WX A hA gf p ho l hf hb i hi (l.take i,[aj .own b]) ⟨by simp;omega,by simp,λx hx=>⟨b,.inl (by simpa using hx)⟩⟩;rw[hfl];have hn:=r2.n
  have e2:(l.take i).map (aj .own)++[aj .own b]++(l.drop (i+1)).map (aj .own)=l.map (aj .own):=by
   conv=>rhs;rw[e]
   simp
  simp only[e2,zF,mq (OV hi)] at u2;dsimp only at r1;rw[<-r1];simp at u2;have ft:=λhi z=>RH hi z (g'.1.map (aj .own)) g'.2 g'.1.length (by simp);simp -implicitDefEqProofs [tJ,u1,u2,hw,sU,RG,ft,hA.o,hA.k,hA.m,hA.b];all_goals omega
end M
set_option maxHeartbeats 4000000
namespace M
open Go
def Ud(o:Ob)(hb:bG o<=1073741824):(dD o).length<=9223372036854775807:=by
 by_cases hok:dw o=true
 ·have hw:bG o=o.path.length+wL wS o.names+wL wS o.values+bH o.resp:=rfl;have hrl:=M3 o.resp;have hvl:=On o.values;have A:=ye hok;have a2:=A.n4;have a1:=A.len;have a3:=mT o.t;have a4:=oA o.values.length (by omega);have et:dD o=mS++32::(o.path++32::(cy o.t++32::(aL o.values.length++10::(iJ o.values++fA o.resp)))):=by unfold dD lV qE fA;rw[ax hok,ax A.resp];simp
  rw[et];simp[BX];omega
 ·rw[(ME o).2 hok];simp
def lE(s:Sh)(o:Ob):List Kp:=s.ai.filter λk=> !(decide (k.at_=s.next)||fJ k.obj o)
def nM(s:Sh)(o:Ob):Bool:=dw o && !fu s.ay o && !decide (s.seq=100000) && !decide (cM s.seq (dD o)=[])
def vb(s:Sh)(o:Ob):Sh:=⟨iH s.aD s.next (cM s.seq (dD o)),lE s o++[⟨o,s.next,s.seq⟩],s.ay,oQ s.next,s.seq+1⟩
def kA(s:Sh)(o:Ob):Sh:=if nM s o=true then vb s o else s
def PD(s:Sh):Pl [.ptr .af (l6 .dead s)]:=⟨by simp[l6],by simp[l6],by simp[l6],by simp[l6]⟩
def Yh(o:Ob):Pl (aW .af o):=⟨by simp,by simp,by simp,by simp⟩
def Zn(s:Sh)(o:Ob)(h:cG s=true)(hb:aZ s<=1073741824)(ho:bG o<=1073741824):ev LI TT 23 [.ptr .own (aG .own s),.agg (aW .af o)]=some (.bool (nM s o),[.ptr .own (aG .own (kA s o)),.dead]):=by
 rw[au (b:=sI) (rs:=[.t 4]) (n:=2) rfl rfl];have A:=jA h;have hn:=A.n;have hq:=A.q;have dc:aZ s=bC s.aD+wL aX s.ai+wL aO s.ay:=rfl;have l1:=bh (w:=aX) s.ai;have l2:=Po (λk=> !(decide (k.at_=s.next)||fJ k.obj o)) s.ai;have v1:=J1 o ho;have v2:=J2 s.seq (dD o) (Ud o ho);have v3:=Ep o ho;have v4:=JZ s.ay o (by omega) ho;try simp at v1 v2 v3 v4
 have hlz:((lE s o).length+1)*136<=140737488355328:=by unfold lE;omega
 have hw:=bO (n:=s.seq+1) (by omega) (by omega);unfold kA nM;cases g1:dw o;·simp -implicitDefEqProofs [sI,v1,v2,v3,v4,g1]
 cases g2:fu s.ay o;rotate_left;·simp -implicitDefEqProofs [sI,v1,v2,v3,v4,g1,g2]
 by_cases g3:s.seq=100000;·rw[g3] at v2;simp -implicitDefEqProofs [sI,v1,v2,v3,v4,g1,g2,g3]
 by_cases g4:cM s.seq (dD o)=[];·rw[g4] at v2;simp -implicitDefEqProofs [sI,v1,v2,v3,v4,g1,g2,g3,g4]
 have v5:=Y7 s.ai [.ptr .af (l6 .dead s)] (aW .af o) (PD s) (Yh o) 70 (λk=>decide (k.at_=s.next)||fJ k.obj o) rfl (λk hk=>Zo k .dead s o (by have:=qY hk;omega) ho) (by omega);have v6:=Qc ⟨s.aD,lE s o,s.ay,s.next,s.seq⟩ s.next (cM s.seq (dD o)) A.d
 have v7:=Qj o ho;have v8:=Qh s.next hn
 unfold s4 at v6;rw[show s.ai.filter (λk=> !(decide (k.at_=s.next)||fJ k.obj o))=lE s o from rfl] at v5;try simp[l6] at v5 v6 v7 v8
 unfold vb;simp -implicitDefEqProofs [sI,jz,gj,v1,v2,v3,v4,v5,v6,v7,v8,g1,g2,g3,g4,hw,hlz,bJ,LQ,LR,LS,LU,LV];all_goals (repeat' split)<;>first|rfl|omega|simp_all<;>omega|skip
end M
set_option maxHeartbeats 4000000
namespace M
open Go
def RS{β:Type}(p:β->Bool)(l:List β):l.flatMap (λk=>if p k=true then [k] else [])=l.filter p:=by
 induction l with
 |nil=>rfl
 |cons a l ih=>cases h:p a<;>simp[h,ih]
def gN:Sh:=⟨⟨[],[]⟩,[],[],0,0⟩
def Zg(s:Sh)(o:Ob)(hb:aZ s<=1073741824)(ho:bG o<=1073741824):ev LI TT 6 [.agg (aG .af s),.agg (aW .af o)]=some (.av [.agg (aG .own (if cG s=true then kA s o else gN)),.bool ((cG s && nM s o))],[.dead,.dead]):=by
 rw[au (b:=Br) (rs:=[.c 4 6 true 31,.t 5]) (n:=2) rfl rfl];have u1:=rK s hb;try simp at u1
 have u2:=Qk s hb;try simp at u2
 cases g:cG s;·simp -implicitDefEqProofs [Br,u1,g,gN]
 have v1:=Zn s o g hb ho;try simp at v1
 simp -implicitDefEqProofs [Br,u1,u2,g,v1];all_goals (repeat' split)<;>first|rfl|omega|simp_all<;>omega|skip
def XF(s:Sh)(o:Ob)(hb:aZ s<=1073741824)(ho:bG o<=1073741824)(t:ag):aI (ak (ev LI TT) (aq TT) yy) [(2,.ptr .own (aG .af s)),(3,.ptr .own (aW .af o)),(4,.ptr .own [.row .own 1 [],.row .own 2 [],.row .own 9 [],.row .own 4 [],.int .i64 0,.int .i64 0]),(6,.str ⟨t.toArray⟩),(7,.ptr .own [.row .own 1 (s.aD.cells.map eS),.row .own 2 (s.aD.pending.map eW),.row .own 9 (([]).map (aj .own)),.row .own 4 (s.ay.map aY),.int .i64 s.next,.int .i64 s.seq]),(8,.int .i64 0)]=some (.exit 0,[(2,.ptr .own (aG .af s)),(3,.ptr .own (aW .af o)),(4,.ptr .own [.row .own 1 [],.row .own 2 [],.row .own 9 [],.row .own 4 [],.int .i64 0,.int .i64 0]),(6,.str ⟨t.toArray⟩),(7,.ptr .own [.row .own 1 (s.aD.cells.map eS),.row .own 2 (s.aD.pending.map eW),.row .own 9 ((((s.ai).flatMap (λk=>if (!(decide (k.at_=s.next)||fJ k.obj o))=true then [k] else []))).map (aj .own)),.row .own 4 (s.ay.map aY),.int .i64 s.next,.int .i64 s.seq]),(8,.int .i64 (s.ai).length),(45,.bool false)]):=by
 refine oO (f:=ak (ev LI TT) (aq TT) yy) (s.ai) (λk=>if (!(decide (k.at_=s.next)||fJ k.obj o))=true then [k] else []) (λi out=>[(2,.ptr .own (aG .af s)),(3,.ptr .own (aW .af o)),(4,.ptr .own [.row .own 1 [],.row .own 2 [],.row .own 9 [],.row .own 4 [],.int .i64 0,.int .i64 0]),(6,.str ⟨t.toArray⟩),(7,.ptr .own [.row .own 1 (s.aD.cells.map eS),.row .own 2 (s.aD.pending.map eW),.row .own 9 ((out).map (aj .own)),.row .own 4 (s.ay.map aY),.int .i64 s.next,.int .i64 s.seq]),(8,.int .i64 i)]) (λout=>[(2,.ptr .own (aG .af s)),(3,.ptr .own (aW .af o)),(4,.ptr .own [.row .own 1 [],.row .own 2 [],.row .own 9 [],.row .own 4 [],.int .i64 0,.int .i64 0]),(6,.str ⟨t.toArray⟩),(7,.ptr .own [.row .own 1 (s.aD.cells.map eS),.row .own 2 (s.aD.pending.map eW),.row .own 9 ((out).map (aj .own)),.row .own 4 (s.ay.map aY),.int .i64 s.next,.int .i64 s.seq]),(8,.int .i64 (s.ai).length),(45,.bool false)]) (λi b out hi hl hout=>?_) (λout hout=>?_)
 ·have hw:=aU i (by have dc:aZ s=bC s.aD+wL aX s.ai+wL aO s.ay:=rfl;have:=bh (w:=aX) s.ai;omega);obtain⟨_,rfl⟩:=aJ.1 hi;have dc:aZ s=bC s.aD+wL aX s.ai+wL aO s.ay:=rfl;have hlk:=bh (w:=aX) s.ai;have hm:=qY (cq hl);have hlo:out.length<=i:=by rw[hout];exact E6 _ (λb=>by split<;>simp) _ _
  have hlz:(out.length+1)*136<=140737488355328:=by omega
  have u1:=Ew (s.ai[i]).obj (by omega);try simp at u1
  have u2:=QH (s.ai[i]).obj o (by omega) ho;try simp at u2
  by_cases g:(s.ai[i]).at_=s.next
  ·simp -implicitDefEqProofs [yy,Hj,g,hl,hw]
  cases g2:fJ (s.ai[i]).obj o;all_goals
  simp -implicitDefEqProofs [yy,Hj,hl,hw,u1,u2,hlz,bJ,g,g2]
 ·simp -implicitDefEqProofs [yy,Hj]
def Qv(s:Sh)(o:Ob)(hb:aZ s<=1073741824)(ho:bG o<=1073741824):ev LI TT 7 [.agg (aG .af s),.agg (aW .af o)]=some (.av [.agg (aG .own (if cG s=true then kA s o else gN)),.bool ((cG s && nM s o))],[.dead,.dead]):=by
 rw[au (b:=qN) (rs:=[.c 4 6 true 31,.t 5]) (n:=2) rfl rfl];have u1:=Eu s hb;try simp at u1
 have u2:=QF s hb;try simp at u2
 cases g:cG s;·simp -implicitDefEqProofs [qN,u1,g,gN]
 rw[g] at u1;have A:=jA g;have hn:=A.n;have hq:=A.q;have dc:aZ s=bC s.aD+wL aX s.ai+wL aO s.ay:=rfl;have l1:=bh (w:=aX) s.ai;have l2:=Po (λk=> !(decide (k.at_=s.next)||fJ k.obj o)) s.ai;have v1:=Qx o ho;have v2:=J8 s.seq (dD o) (Ud o ho);have v3:=Ah o ho;have v4:=J7 s.ay o (by omega) ho;try simp at v1 v2 v3 v4
 have hlz:((lE s o).length+1)*136<=140737488355328:=by unfold lE;omega
 have hw:=bO (n:=s.seq+1) (by omega) (by omega);unfold kA nM;cases g1:dw o;·simp -implicitDefEqProofs [qN,u1,u2,v1,v2,v3,v4,g,g1]
 cases g2:fu s.ay o;rotate_left;·simp -implicitDefEqProofs [qN,u1,u2,v1,v2,v3,v4,g,g1,g2]
 by_cases g3:s.seq=100000;·rw[g3] at v2 u1 u2;simp -implicitDefEqProofs [qN,u1,u2,v1,v2,v3,v4,g,g1,g2,g3]
 by_cases g4:cM s.seq (dD o)=[];·rw[g4] at v2;simp -implicitDefEqProofs [qN,u1,u2,v1,v2,v3,v4,g,g1,g2,g3,g4]
 have v5:=XF s o hb ho (cM s.seq (dD o));rw[RS,show s.ai.filter (λk=> !(decide (k.at_=s.next)||fJ k.obj o))=lE s o from rfl] at v5;have v6:=QG ⟨s.aD,lE s o,s.ay,s.next,s.seq⟩ s.next (cM s.seq (dD o)) A.d (by omega)
 have v7:=Ew o ho;have v8:=QE s.next hn
 unfold s4 at v6;try simp at v5 v6 v7 v8
 unfold vb;simp -implicitDefEqProofs [qN,u1,u2,v1,v2,v3,v4,v5,v6,v7,v8,g,g1,g2,g3,g4,hw,hlz,bJ];all_goals (repeat' split)<;>first|rfl|omega|simp_all<;>omega|skip
end M
set_option maxHeartbeats 4000000
namespace M
open Go
def UH(n:Int)(b:ag):(cM n b).length<=2040:=by
 unfold cM;split;·rename_i h;unfold qJ;have l1:=oA n.toNat (by omega);have l2:=oA b.length (by omega);have l3:=p8 17 (jC (aL n.toNat++32::(aL b.length++10::b))) (OW (Ds _) (by decide));simp;omega
 ·simp
def Ts(s:Sh)(o:Ob):aZ (kA s o)<=aZ s+bG o+2100:=by
 unfold kA;split
 ·have h1:=Ux s.aD s.next (cM s.seq (dD o))
  have h2:=UH s.seq (dD o);have h3:wL aX (lE s o)<=wL aX s.ai:=VU aX _ _;have h4:wL aX [⟨o,s.next,s.seq⟩]=bG o+1:=by simp[wL,aX];omega
  show bC (iH s.aD s.next (cM s.seq (dD o)))+wL aX (lE s o++[⟨o,s.next,s.seq⟩])+wL aO s.ay<=bC s.aD+wL aX s.ai+wL aO s.ay+bG o+2100;rw[qZ];omega
 ·omega
end M
set_option maxHeartbeats 4000000
namespace M
open Go
def YE{α:Type}(p:α->Bool)(a b:List α):bq p (a++b)=(bq p a && bq p b):=by
 induction a with
 |nil=>simp[bq]
 |cons x a ih=>simp[bq,ih,OT]
def Cl{d:aV}{a:Int}(t:ag)(h:cg d=true)(ha:0<=a/\a<=19):cg (iH d a t)=true:=by
 obtain⟨h0,h1,h2⟩:=fR h;have hf:=xk h;unfold iH;split;·obtain⟨g0,g1,g2⟩:=fR hf;unfold cg;simp[g1,bq,nU,ha]
 ·rename_i hp;unfold cg at h⊢;simp only[aB,bp,eu,cw,gA,YE] at h⊢;simp[bq,nU,ha] at h⊢;exact⟨h.1,by omega⟩
def lC(s:Sh)(b:Bn):Bool:=dn b && !decide (5<=(s.ay.length:Int)) && !decide (s.seq=100000)
def jY(s:Sh)(b:Bn):aV:=e8 (iH s.aD s.ay.length (cM s.seq (di b)))
def As(s:Sh)(b:Bn):List Kp:=s.ai.filter λk=> !fu (s.ay++[b]) k.obj
def ue(s:Sh)(b:Bn):Sh:=⟨jY s b,As s b,s.ay++[b],s.next,s.seq+1⟩
def gT(s:Sh)(b:Bn):Sh:=if lC s b=true then ue s b else s
def El(s:Sh)(b:Bn):aZ (gT s b)<=aZ s+aO b+2100:=by
 unfold gT;split
 ·have h1:=Ux s.aD s.ay.length (cM s.seq (di b));have h2:=UH s.seq (di b);have h5:=AG (iH s.aD s.ay.length (cM s.seq (di b)));have h3:wL aX (As s b)<=wL aX s.ai:=VU aX _ _;have h4:wL aO [b]=aO b+1:=by simp[wL];omega
  show bC (e8 (iH s.aD s.ay.length (cM s.seq (di b))))+wL aX (As s b)+wL aO (s.ay++[b])<=bC s.aD+wL aX s.ai+wL aO s.ay+aO b+2100;rw[qZ];omega
 ·omega
def PY(b:Bn)(hb:aO b<=1073741824):(di b).length<=9223372036854775807:=by
 have h1:=mT b.t;have h2:aO b=b.a.length+b.b.length:=rfl;have h3:(iK b.kind).length<=10:=by unfold iK;split<;>(try split)<;>decide
 unfold di;split;·split<;>simp<;>omega
 ·simp
def Zl(s:Sh)(b:Bn)(h:cG s=true)(hb:aZ s<=1000000000)(ho:aO b<=10000000):ev LI TT 45 [.ptr .own (aG .own s),.agg (aY b)]=some (.bool (lC s b),[.ptr .own (aG .own (gT s b)),.dead]):=by
 rw[au (b:=uX) (rs:=[.t 4]) (n:=2) rfl rfl];have A:=jA h;have hn:=A.n;have hq:=A.q;have K7:=A.b;have dc:aZ s=bC s.aD+wL aX s.ai+wL aO s.ay:=rfl;have l1:=bh (w:=aX) s.ai;have v1:=En b (by omega);try simp at v1
 have hlz:(s.ay.length+1)*48<=140737488355328:=by omega
 have hw:=bO (n:=s.seq+1) (by omega) (by omega);unfold gT lC;cases g1:dn b;·simp -implicitDefEqProofs [uX,v1,g1]
 by_cases g2:5<=(s.ay.length:Int);·simp -implicitDefEqProofs [uX,v1,g1,g2]
 by_cases g3:s.seq=100000;·simp -implicitDefEqProofs [uX,v1,g1,g2,g3]
 have v2:=P4 b (by omega);have v3:=J2 s.seq (di b) (PY b (by omega));have v4:=Qc s s.ay.length (cM s.seq (di b)) A.d;have v5:=P5 (iH s.aD s.ay.length (cM s.seq (di b))) (Cl _ A.d (by omega));have Lx:wL aO (s.ay++[b])<=1073741824:=by rw[qZ];have:wL aO [b]=aO b+1:=(by simp[wL];omega);have e2:aO b<=10000000:=ho;omega
 have v6:=Y6 s.ai [.ptr .af (l6 .dead ⟨jY s b,s.ai,s.ay++[b],s.next,s.seq+1⟩)] (PD _) 102 (λk=>fu (s.ay++[b]) k.obj) rfl (λk hk=>Zm k .dead ⟨jY s b,s.ai,s.ay++[b],s.next,s.seq+1⟩ (by have:=qY hk;omega) Lx) (by omega);unfold s4 at v4;rw[show s.ai.filter (λk=> !fu (s.ay++[b]) k.obj)=As s b from rfl] at v6;rw[show e8 (iH s.aD s.ay.length (cM s.seq (di b)))=jY s b from rfl] at v5;try simp[l6] at v2 v3 v4 v5 v6
 unfold ue;simp -implicitDefEqProofs [uX,jz,gj,v1,v2,v3,v4,v5,v6,g1,g2,g3,hw,hlz,bJ,LN,LO,LP];all_goals (repeat' split)<;>first|rfl|omega|simp_all<;>omega|skip
end M
set_option maxHeartbeats 4000000
namespace M
open Go
def Zb(s:Sh)(b:Bn)(hb:aZ s<=1000000000)(ho:aO b<=10000000):ev LI TT 13 [.agg (aG .af s),.agg (aY b)]=some (.av [.agg (aG .own (if cG s=true then gT s b else gN)),.bool ((cG s && lC s b))],[.dead,.dead]):=by
 rw[au (b:=Bk) (rs:=[.c 4 6 true 31,.t 5]) (n:=2) rfl rfl];have u1:=rK s (by omega);try simp at u1
 have u2:=Qk s (by omega);try simp at u2
 cases g:cG s;·simp -implicitDefEqProofs [Bk,u1,g,gN]
 have v1:=Zl s b g hb ho;try simp at v1
 simp -implicitDefEqProofs [Bk,u1,u2,g,v1];all_goals (repeat' split)<;>first|rfl|omega|simp_all<;>omega|skip
def Xx(s:Sh)(D:aV)(B:List Bn)(sq:Int)(hb:aZ s<=1000000000)(hB:wL aO B<=1073741824):aI (ak (ev LI TT) (aq TT) Cr) [(2,.ptr .own (aG .af s)),(4,.ptr .own [.row .own 1 [],.row .own 2 [],.row .own 9 [],.row .own 4 [],.int .i64 0,.int .i64 0]),(6,.ptr .own [.row .own 1 (D.cells.map eS),.row .own 2 (D.pending.map eW),.row .own 9 (([]).map (aj .own)),.row .own 4 (B.map aY),.int .i64 s.next,.int .i64 sq]),(7,.int .i64 0)]=some (.exit 0,[(2,.ptr .own (aG .af s)),(4,.ptr .own [.row .own 1 [],.row .own 2 [],.row .own 9 [],.row .own 4 [],.int .i64 0,.int .i64 0]),(6,.ptr .own [.row .own 1 (D.cells.map eS),.row .own 2 (D.pending.map eW),.row .own 9 ((((s.ai).flatMap (λk=>if (!fu B k.obj)=true then [k] else []))).map (aj .own)),.row .own 4 (B.map aY),.int .i64 s.next,.int .i64 sq]),(7,.int .i64 (s.ai).length),(58,.bool false)]):=by
 refine oO (f:=ak (ev LI TT) (aq TT) Cr) (s.ai) (λk=>if (!fu B k.obj)=true then [k] else []) (λi out=>[(2,.ptr .own (aG .af s)),(4,.ptr .own [.row .own 1 [],.row .own 2 [],.row .own 9 [],.row .own 4 [],.int .i64 0,.int .i64 0]),(6,.ptr .own [.row .own 1 (D.cells.map eS),.row .own 2 (D.pending.map eW),.row .own 9 ((out).map (aj .own)),.row .own 4 (B.map aY),.int .i64 s.next,.int .i64 sq]),(7,.int .i64 i)]) (λout=>[(2,.ptr .own (aG .af s)),(4,.ptr .own [.row .own 1 [],.row .own 2 [],.row .own 9 [],.row .own 4 [],.int .i64 0,.int .i64 0]),(6,.ptr .own [.row .own 1 (D.cells.map eS),.row .own 2 (D.pending.map eW),.row .own 9 ((out).map (aj .own)),.row .own 4 (B.map aY),.int .i64 s.next,.int .i64 sq]),(7,.int .i64 (s.ai).length),(58,.bool false)]) (λi b out hi hl hout=>?_) (λout hout=>?_)
 ·have hw:=aU i (by have dc:aZ s=bC s.aD+wL aX s.ai+wL aO s.ay:=rfl;have:=bh (w:=aX) s.ai;omega);obtain⟨_,rfl⟩:=aJ.1 hi;have dc:aZ s=bC s.aD+wL aX s.ai+wL aO s.ay:=rfl;have hlk:=bh (w:=aX) s.ai;have hm:=qY (cq hl);have hlo:out.length<=i:=by rw[hout];exact E6 _ (λb=>by split<;>simp) _ _
  have hlz:(out.length+1)*136<=140737488355328:=by omega
  have u1:=Ew (s.ai[i]).obj (by omega);try simp at u1
  have u2:=J7 B (s.ai[i]).obj hB (by omega);try simp at u2
  cases g2:fu B (s.ai[i]).obj;all_goals
  simp -implicitDefEqProofs [Cr,M9,hl,hw,u1,u2,hlz,bJ,g2]
 ·simp -implicitDefEqProofs [Cr,M9]
def Qp(s:Sh)(b:Bn)(hb:aZ s<=1000000000)(ho:aO b<=10000000):ev LI TT 14 [.agg (aG .af s),.agg (aY b)]=some (.av [.agg (aG .own (if cG s=true then gT s b else gN)),.bool ((cG s && lC s b))],[.dead,.dead]):=by
 rw[au (b:=s6) (rs:=[.c 4 6 true 31,.t 5]) (n:=2) rfl rfl];have u1:=Eu s (by omega);try simp at u1
 have u2:=QF s (by omega);try simp at u2
 cases g:cG s;·simp -implicitDefEqProofs [s6,u1,g,gN]
 rw[g] at u1;have A:=jA g;have hn:=A.n;have hq:=A.q;have K7:=A.b;have dc:aZ s=bC s.aD+wL aX s.ai+wL aO s.ay:=rfl;have l1:=bh (w:=aX) s.ai;have v1:=Es b (by omega);try simp at v1
 have hlz:(s.ay.length+1)*48<=140737488355328:=by omega
 have hw:=bO (n:=s.seq+1) (by omega) (by omega);unfold gT lC;cases g1:dn b;·simp -implicitDefEqProofs [s6,u1,u2,v1,g,g1]
 by_cases g2:5<=(s.ay.length:Int)
 ·have ke:(s.ay.length:Int)=5:=by omega
  simp -implicitDefEqProofs [s6,u1,u2,v1,g,g1,ke]
 have ke:¬(s.ay.length:Int)=5:=by omega
 by_cases g3:s.seq=100000;·rw[g3] at u1 u2;simp -implicitDefEqProofs [s6,u1,u2,v1,g,g1,g2,ke,g3]
 have v2:=Qo b (by omega);have v3:=J8 s.seq (di b) (PY b (by omega));have v4:=QG s s.ay.length (cM s.seq (di b)) A.d (by omega);have v5:=Ag (iH s.aD s.ay.length (cM s.seq (di b))) (Cl _ A.d (by omega));have Lx:wL aO (s.ay++[b])<=1073741824:=by rw[qZ];have:wL aO [b]=aO b+1:=(by simp[wL];omega);have e2:aO b<=10000000:=ho;omega
 have v6:=Xx s (jY s b) (s.ay++[b]) (s.seq+1) hb Lx;unfold s4 at v4;rw[RS,show s.ai.filter (λk=> !fu (s.ay++[b]) k.obj)=As s b from rfl] at v6;rw[show e8 (iH s.aD s.ay.length (cM s.seq (di b)))=jY s b from rfl] at v5;try simp at v2 v3 v4 v5 v6
 unfold ue;simp -implicitDefEqProofs [s6,u1,u2,v1,v2,v3,v4,v5,v6,g,g1,g2,ke,g3,hw,hlz,bJ,Na,Nb,Nc,Nd];all_goals (repeat' split)<;>first|rfl|omega|simp_all<;>omega|skip
end M
set_option maxHeartbeats 4000000
namespace M
open Go
def xX(q:Rq)(r:bU):Bool:=yo q && fy r && decide (q.method=1) && decide (r.status=200) && !(p6 q.fields).ns && !(p6 r.fields).ns && !(p6 r.fields).pr && (p6 r.fields).ha && nS (dB r.fields)
def sW(q:Rq)(r:bU)(t:Int):Ob:=⟨q.path,dB r.fields,valuesOf (dB r.fields) q.fields,r,t⟩
def vm(q:Rq)(r:bU)(t:Int):Bool:=xX q r && dw (sW q r t)
def sX(q:Rq)(r:bU)(t:Int):Ob:=if vm q r t=true then sW q r t else OI
def shC(c:Ca)(s:Sh):Ca:=⟨s,c.nB,c.now,c.seen,c.sent⟩
def U2(c:Ca)(q:Rq)(r:bU):Ca:=⟨c.jB,c.nB,c.now,c.seen++[⟨q,r,c.now⟩],c.sent⟩
end M
set_option maxHeartbeats 4000000
namespace M
open Go
def Iw{s:Sh}(h1:cg s.aD=true)(h2:s.ay.length<=5)(h3:5<=s.next/\s.next<=19)(h4:1<=s.seq/\s.seq<=100000)(h5:∀b∈s.ay,dn b=true)(h6:zY s.seq s.ai):cG s=true:=by unfold cG;simp only[aB,bp];exact⟨⟨⟨⟨⟨h1,by omega⟩,h3⟩,h4⟩,dY.2 h5⟩,GK.2 h6⟩
def zY.sub{S S':Int}{l l':List Kp}(h:zY S l)(hs:List.Sublist l' l)(hS:S<=S'):zY S' l':=
 ⟨λx hx=>by have:=h.k x (hs.subset hx);exact⟨this.1,this.2.1,this.2.2.1,by omega⟩,h.p.sublist hs⟩
def Tq{s:Sh}{o:Ob}(h:cG s=true):cG (kA s o)=true:=by
 unfold kA;split
 ·rename_i g;have A:=jA h;unfold nM at g;simp only[aB,rq,DR] at g;obtain⟨⟨⟨g1,g2⟩,g3⟩,g4⟩:=g;have hn:=A.n;have hq:=A.q;have P:=GK.1 A.os;refine Iw (Cl _ A.d (by omega)) (by have:=A.b;simp only[vb];omega) (TY hn) (by simp only[vb];omega) (λb hb=>dY.1 A.bs b hb) ?_;have hs:List.Sublist (lE s o) s.ai:=WN;refine⟨λx hx=>?_,?_⟩
  ·rcases dy.1 hx with hx|hx;·have:=P.k x (hs.subset hx);exact⟨this.1,this.2.1,this.2.2.1,by simp only[vb];omega⟩
   ·simp at hx;subst hx;exact⟨g1,hn,by simp only;omega,by simp only[vb];omega⟩
  ·show (lE s o++[_]).Pairwise _;rw[tL];refine⟨P.p.sublist hs,by simp,λx hx y hy=>?_⟩;simp at hy;subst hy;have h1:=P.k x (hs.subset hx);have h2:=(List.mem_filter.1 hx).2;simp at h2;exact⟨h2.1,h1.2.2.2⟩
 ·exact h
def Ek{s:Sh}{b:Bn}(h:cG s=true):cG (gT s b)=true:=by
 unfold gT;split
 ·rename_i g;have A:=jA h;unfold lC at g;simp only[aB,rq,DR] at g;obtain⟨⟨g1,g2⟩,g3⟩:=g;have hn:=A.n;have hq:=A.q;have hb:=A.b;have P:=GK.1 A.os;refine Iw (xk (Cl _ A.d (by omega))) (by simp only[ue,eu,Wu];omega) hn (by simp only[ue];omega) (λc hc=>?_) (P.sub WN (by simp only[ue];omega));rcases dy.1 hc with hc|hc;·exact dY.1 A.bs c hc
  ·simp at hc;subst hc;exact g1
 ·exact h
def ago{d:aV}(h:cg d=true):cG (iG d)=true:=by
 have B:=B2 d;have O:=xW d;have hm:=O.m;have hsub:=vf (fe d);refine Iw h B.2.1 (agu λk hk=>(B1 (hsub.subset hk)).1.a) (by simp only[iG];omega) B.1 ⟨λx hx=>?_,?_⟩;·have:=B1 (hsub.subset hx);exact⟨this.1.o,this.1.a,this.1.s.1,by have:=this.2;simp only[iG];omega⟩
 ·have h1:(fe d).Pairwise λx y=>x.at_≠y.at_:=((IB Kp.seq (gK d).1).pairwise_iff λ{x y} h e=>h e.symm).2 O.d;have h2:(fe d).Pairwise λx y=>x.seq<=y.seq:=aiD Kp.seq (gK d).1;have h3:=Mh (fe d);exact((h1.sublist hsub).and ((h2.sublist hsub).and h3)).imp λ⟨a,b,c⟩=>⟨a,by omega⟩
structure pU (c:Ca):Prop where
 s:cG c.jB=true
 n:0<=c.now/\c.now<=1000000
 e:c.seen.length<=1500
 t:c.sent.length<=1500
 f:c.nB.length<=5
 q:∀x∈c.nB,yo x.q=true/\(1<=x.who.length/\x.who.length<=5)/\(x.Fq=true->dw x.old=true)
 p:c.nB.Pairwise λx y=>YD x.q y.q=false
end M
set_option maxHeartbeats 4000000
namespace M
open Go
def pU.sent{c:Ca}(h:pU c){l:List Rp}(hl:c.sent.length+l.length<=1500):pU ⟨c.jB,c.nB,c.now,c.seen,c.sent++l⟩:=
 ⟨h.s,h.n,h.e,by simp;omega,h.f,h.q,h.p⟩
def pU.jB{c:Ca}(h:pU c){s:Sh}(hs:cG s=true):pU (shC c s):=⟨hs,h.n,h.e,h.t,h.f,h.q,h.p⟩
def pU.seen{c:Ca}(h:pU c){q:Rq}{r:bU}(hl:c.seen.length<1500):pU (U2 c q r):=⟨h.s,h.n,by simp[U2];omega,h.t,h.f,h.q,h.p⟩
end M
set_option maxHeartbeats 4000000
namespace M
open Go
end M
set_option maxHeartbeats 4000000
namespace M
open Go
end M
set_option maxHeartbeats 8000000
namespace M
open Go
end M
set_option maxHeartbeats 8000000
namespace M
open Go
end M
set_option maxHeartbeats 8000000
namespace M
open Go
end M
set_option maxHeartbeats 8000000
namespace M
open Go
end M
set_option maxHeartbeats 8000000
namespace M
open Go
def VQ{fs:List aK}(hb:wL aP fs<=1000000000):(dB fs).length<=1073741824/\∀w∈dB fs,w.length<=1073741824:=by have h0:=IY fs;refine⟨by omega,λw hw=>?_⟩;unfold dB at hw;obtain⟨x,hx,rfl⟩:=bw.1 hw;have h1:=DA _ x hx;have h2:=uE fs ju;simp only[cK,cV];omega
def ZK(q:Rq)(r:bU)(hq:me q<=1000000000)(hr:bH r<=1000000000):ev LI TT 170 [.agg (oC .af q),.agg (ga .af r)]=some (.bool (xX q r),[.dead,.dead]):=by
 rw[au (b:=mY) (rs:=[.t 4]) (n:=2) rfl rfl];have dr:bH r=wL aP r.fields+r.body.length:=rfl;have S7:me q=q.path.length+wL aP q.fields+q.body.length:=rfl;have V:=VQ (fs:=r.fields) (by omega);unfold xX;have u1:=ZO q (by omega);try simp at u1
 have u2:=J9 r (by omega);try simp at u2
 have u3:=Qq r.fields (by omega);try simp at u3
 have u4:=Qq q.fields (by omega);try simp at u4
 have u5:=Ev r.fields (by omega);try simp at u5
 have u6:=QJ (dB r.fields) V.1 V.2;try simp at u6
 rw[show (bq dX (dB r.fields) && decide (((dB r.fields).length:Int)<=4))=nS (dB r.fields) from rfl] at u6;generalize nS (dB r.fields)=b6 at u6⊢;generalize dB r.fields=W at u5 u6;generalize p6 r.fields=c1 at u3⊢;generalize p6 q.fields=c2 at u4⊢;generalize fy r=b2 at u2⊢;generalize yo q=b1 at u1⊢;obtain⟨n1,n2,n3,n4,n5,n6⟩:=c1;obtain⟨m1,m2,m3,m4,m5,m6⟩:=c2;simp only at u3 u4;cases b1;·simp -implicitDefEqProofs [mY,u1]
 cases b2;·simp -implicitDefEqProofs [mY,u1,u2]
 by_cases g1:q.method=1;rotate_left;·simp -implicitDefEqProofs [mY,u1,u2,g1]
 rw[g1] at u1;by_cases g2:r.status=200;rotate_left;·simp -implicitDefEqProofs [mY,u1,u2,g1,g2]
 rw[g2] at u2;cases m1;rotate_left;·simp -implicitDefEqProofs [mY,s8,vt,vu,s9,vw,vz,vA,u1,u2,u3,u4,g1,g2]
 cases n1;rotate_left;·simp -implicitDefEqProofs [mY,s8,vt,vu,s9,vw,vz,vA,u1,u2,u3,u4,g1,g2]
 cases n3;rotate_left;·simp -implicitDefEqProofs [mY,s8,vt,vu,s9,vw,vz,vA,u1,u2,u3,u4,g1,g2]
 cases n5;·simp -implicitDefEqProofs [mY,s8,vt,vu,s9,vw,vz,vA,u1,u2,u3,u4,g1,g2]
 simp -implicitDefEqProofs [mY,u1,u2,u3,u4,u5,u6,g1,g2,s8,vt,vu,s9,vw,vz,vA];all_goals (repeat' split)<;>first|rfl|omega|simp_all<;>omega|skip
def agt{l:List ag}(h:nS l=true):l.length<=4:=by unfold nS at h;simp only[aB,bp] at h;omega
def al7(fs:List aK)(n:ag):(wk fs n).length<=wL aP fs+1:=by
 have h:=uE fs n;unfold wk;cases hg:dW fs n with
 |none=>simp
 |some x=>rw[hg] at h;simp at h⊢;omega
def agI{q:Rq}{r:bU}(t:Int)(hm:xX q r=true)(hq:me q<=100000000)(hr:bH r<=100000000):bG (sW q r t)<=1073741824:=by
 unfold xX at hm;simp only[aB] at hm;have hr2:=MU hm.1.1.1.1.1.1.1.2;have hn:=agt hm.2;have dr:bH r=wL aP r.fields+r.body.length:=rfl;have S7:me q=q.path.length+wL aP q.fields+q.body.length:=rfl;have h1:=VP r.fields;have h2:wL aP r.fields+1<=801:=by omega
 have h3:=OX h2 h2;have h4:wL wS (valuesOf (dB r.fields) q.fields)<=4*(wL aP q.fields+1+1):=pM (λw hw=>by unfold valuesOf at hw;obtain⟨n,_,rfl⟩:=bw.1 hw;exact al7 q.fields n) (by rw[al9];exact hn)
 have e:bG (sW q r t)=q.path.length+wL wS (dB r.fields)+wL wS (valuesOf (dB r.fields) q.fields)+bH r:=rfl;omega
def ZM(q:Rq)(r:bU)(t:Int)(hq:me q<=100000000)(hr:bH r<=100000000):ev LI TT 128 [.agg (oC .af q),.agg (ga .af r),.int .i64 t]=some (.av [.agg (aW .own (sX q r t)),.bool (vm q r t)],[.dead,.dead,.dead]):=by
 rw[au (b:=yA) (rs:=[.c 6 7 true 36,.t 7]) (n:=3) rfl rfl];have dr:bH r=wL aP r.fields+r.body.length:=rfl;have S7:me q=q.path.length+wL aP q.fields+q.body.length:=rfl;have V:=VQ (fs:=r.fields) (by omega);have kr:=bh (w:=aP) q.fields;have xw:=bh (w:=aP) r.fields;have u1:=ZK q r (by omega) (by omega);try simp at u1
 have u2:=Ev r.fields (by omega);try simp at u2
 have u3:=QK r (by omega);try simp at u3
 have u4:=ZR (dB r.fields) q.fields V.1 (by omega);try simp at u4
 unfold sX vm;cases g1:xX q r<;>rw[g1] at u1;·simp -implicitDefEqProofs [yA,CB,CC,CD,u1,OI]
 have u5:=Ah (sW q r t) (agI t g1 hq hr);cases g2:dw (sW q r t)<;>rw[g2] at u5<;>simp[sW] at u5;·simp -implicitDefEqProofs [yA,CB,CC,CD,u1,u2,u3,u4,u5,OI]
 simp -implicitDefEqProofs [yA,u1,u2,u3,u4,sW,CB,CC,CD];all_goals (repeat' split)<;>first|rfl|omega|simp_all<;>omega|skip
def agM{q:Rq}{r:bU}{t:Int}(h:vm q r t=true):bG (sX q r t)<=1300:=by unfold sX;rw[ax h];unfold vm at h;simp only[aB] at h;exact sY h.2
def agL{q:Rq}{r:bU}{t:Int}(h:vm q r t=true):(sX q r t).t=t:=by unfold sX;rw[ax h];rfl
end M
set_option maxHeartbeats 8000000
namespace M
open Go
def afZ{xt:Nat}{γ δ:Type}{f:ah->cB}(st:γ->ah)(μ:γ->Nat)(Inv:γ->Prop)(E:γ->ah)(R:δ->ah)(JE:δ->Prop)
  (h:∀g,Inv g->(∃g',Inv g'/\f (st g)=some (.exit xt,E g'))\/(∃d,JE d/\f (st g)=some (.ret,R d))\/∃g',Inv g'/\μ g'<μ g/\f (st g)=some (.normal,st g'))(g:γ)(hg:Inv g):(∃g',Inv g'/\aI f (st g)=some (.exit xt,E g'))\/∃d,JE d/\aI f (st g)=some (.ret,R d):=by
 suffices H:∀n g,μ g=n->Inv g->(∃g',Inv g'/\aI f (st g)=some (.exit xt,E g'))\/∃d,JE d/\aI f (st g)=some (.ret,R d) from H _ g rfl hg
 intro n;induction n using Nat.strongRecOn with
 |ind n ih=>
  intro g hn hI;rcases h g hI with ⟨g',h1,h2⟩|⟨d,h1,h2⟩|⟨g',h1,h2,h3⟩;·exact .inl ⟨g',h1,by rw[cW,h2];rfl⟩
  ·exact .inr ⟨d,h1,by rw[cW,h2];rfl⟩
  ·rw[cW,h3];exact ih _ (by omega) g' rfl h1
def VT{fs:List aK}{n:Nat}(h:wL aP fs<=n):fs.length<=n:=jF (bh fs) h
def V1(c:bg)(t:Int):∃(c':bg) (o:Ob),bG o<=2000/\o.t=t/\ev LI TT 61 [.ptr .own (aR c),.int .i64 t]=some (.agg (aW .own o),[.ptr .own (aR c'),.dead]):=by
 have H:=afZ (xt:=0) (f:=ak (ev LI TT) (aq TT) CS)
  (λ(g:bg×Nat)=>[(0,.az 100000 [] 0 0),(1,.int .i64 t),(4,.ptr .own [.str ⟨#[]⟩,.row .own 1 [],.row .own 1 [],.int .i64 0,.row .own 2 [],.str ⟨#[]⟩,.int .i64 0]),(5,.int .i64 g.2),(100000,.ptr .own (aR g.1))])
  (λg=>20 - g.2) (λg=>g.2<=4)
  (λg=>[(0,.az 100000 [] 0 0),(1,.int .i64 t),(4,.ptr .own [.str ⟨#[]⟩,.row .own 1 [],.row .own 1 [],.int .i64 0,.row .own 2 [],.str ⟨#[]⟩,.int .i64 0]),(5,.int .i64 g.2),(11,.bool false),(100000,.ptr .own (aR g.1))])
  (λ(d:bg×Ob)=>[(4,.ptr .own (aW .own d.2)),(100000,.ptr .own (aR d.1))])
  (λd=>bG d.2<=2000/\d.2.t=t)
  (λg hg=>by
   obtain⟨c,i⟩:=g;simp only at hg;by_cases h:(i:Int)<4
   ·right;have hw:=aU i (by omega);obtain⟨c1,⟨st,fs,bd⟩,hr,hst,e1⟩:=V8 c;simp only[bH] at hr;have hfl:=VT (n:=2000) (fs:=fs) (by omega);have e2:=Qt fs [99,97,99,104,101,45,99,111,110,116,114,111,108] (by omega);have d1:=Ri fs [99,97,99,104,101,45,99,111,110,116,114,111,108];have d2:=aaA fs [99,97,99,104,101,45,99,111,110,116,114,111,108];obtain⟨c2,v,hv,e3⟩:=eM c1 [[109,97,120,45,97,103,101,61,53],[109,97,120,45,97,103,101,61,50,48]] 30 (by simp) (by simp) (by simp);generalize rU fs [99,97,99,104,101,45,99,111,110,116,114,111,108]=E9 at e2 d1 d2;have e4:=Qy E9 [99,97,99,104,101,45,99,111,110,116,114,111,108] v (by omega);have d3:=UA E9 [99,97,99,104,101,45,99,111,110,116,114,111,108] v;have d4:=ahR E9 [99,97,99,104,101,45,99,111,110,116,114,111,108] v;generalize sZ E9 [99,97,99,104,101,45,99,111,110,116,114,111,108] v=xl at e4 d3 d4;obtain⟨c3,⟨m,p,qf,qb⟩,hq,hm,e5⟩:=amq c2;simp only[me] at hq;have hql:=VT (n:=2000) (fs:=qf) (by omega);have e6:=Qt qf [99,97,99,104,101,45,99,111,110,116,114,111,108] (by omega);have d5:=Ri qf [99,97,99,104,101,45,99,111,110,116,114,111,108];generalize rU qf [99,97,99,104,101,45,99,111,110,116,114,111,108]=GN at e6 d5;have hdl:([99,97,99,104,101,45,99,111,110,116,114,111,108]:ag).length=13:=rfl;have e7:=ZM ⟨1,p,GN,[]⟩ ⟨200,xl,bd⟩ t (by simp only[me,gA];omega) (by simp only[bH];omega);simp at e3;try simp at e1
    try simp at e2
    try simp at e4
    try simp at e5
    try simp at e6
    cases ho:vm ⟨1,p,GN,[]⟩ ⟨200,xl,bd⟩ t
    ·rw[ho] at e7;generalize sX ⟨1,p,GN,[]⟩ ⟨200,xl,bd⟩ t=ob at e7;try simp at e7
     right;refine⟨(c3,i+1),by simp only;omega,by simp only;omega,?_⟩;simp -implicitDefEqProofs [CS,HB,e1,e2,e3,e4,e5,e6,e7,h,hw,cu,ck,ct]
    ·rw[ho] at e7;have w1:=agM ho;have w2:=agL ho;generalize sX ⟨1,p,GN,[]⟩ ⟨200,xl,bd⟩ t=ob at e7 w1 w2;try simp at e7
     left;refine⟨(c3,ob),⟨by simp only;omega,by simp only;exact w2⟩,?_⟩;simp -implicitDefEqProofs [CS,HB,e1,e2,e3,e4,e5,e6,e7,h,hw,cu,ck,ct]
   ·left;refine⟨(c,i),hg,?_⟩;simp -implicitDefEqProofs [CS,HB,h])
  (c,0) (by simp)
 rcases H with ⟨⟨c',i⟩,h1,e⟩|⟨⟨c',ob⟩,⟨h1,h2⟩,e⟩;·refine⟨c',⟨[47,97],[],[],⟨200,[],[]⟩,t⟩,by simp[bG,bH,wL],rfl,?_⟩;simp at e;rw[au (b:=yF) (rs:=_) (n:=2) rfl rfl];simp -implicitDefEqProofs [yF,e,cu,ck,ct]
 ·refine⟨c',ob,h1,h2,?_⟩;simp at e;rw[au (b:=yF) (rs:=_) (n:=2) rfl rfl];simp -implicitDefEqProofs [yF,e]
def amf(c:bg):∃(c':bg) (o:Ob),bG o<=20000/\bI o.t/\ev LI TT 21 [.ptr .own (aR c)]=some (.agg (aW .own o),[.ptr .own (aR c')]):=by
 obtain⟨c1,n,n1,n2,u1⟩:=fL c 30 (by omega) (by omega);obtain⟨c2,⟨p,ns,vs,⟨st,fs,bd⟩,t⟩,ho,ht,u2⟩:=V1 c1 n;obtain⟨c3,k,k1,k2,u3⟩:=fL c2 20 (by omega) (by omega);simp only[bG,bH] at ho;simp only at ht;have hnl:=bh (w:=wS) ns;have hvl:=bh (w:=wS) vs;have AO:bI t:=by unfold bI;omega
 try simp at u2
 by_cases g0:k=0;·subst g0;obtain⟨c4,x,hx,u4⟩:=V9 c3;refine⟨c4,⟨p,ns,vs,⟨st,fs,bd⟩,x⟩,by simp only[bG,bH];omega,hx,?_⟩;rw[au (b:=ld) (rs:=_) (n:=1) rfl rfl];simp -implicitDefEqProofs [ld,u1,u2,u3,u4,cu,ck,ct]
 by_cases g1:k=1;·subst g1;obtain⟨c4,s,hs,u4⟩:=eM c3 [[],[120],[47,32]] 100 (by simp) (by simp) (by simp);refine⟨c4,⟨s,ns,vs,⟨st,fs,bd⟩,t⟩,by simp only[bG,bH];omega,AO,?_⟩;simp at u4;rw[au (b:=ld) (rs:=_) (n:=1) rfl rfl];simp -implicitDefEqProofs [ld,u1,u2,u3,u4,cu,ck,ct]
 by_cases g2:k=2
 ·subst g2;have h8:(vs.length+1)*16<=140737488355328:=by omega
  refine⟨c3,⟨p,ns,vs++[[118]],⟨st,fs,bd⟩,t⟩,?_,AO,?_⟩;·simp only[bG,bH,qZ];simp only[wL,cw,gA,bn,jh,nk,zI,wS] at ho⊢;omega
  rw[au (b:=ld) (rs:=_) (n:=1) rfl rfl];simp -implicitDefEqProofs [ld,u1,u2,u3,bJ,h8,cu,ck,ct]
 by_cases g3:k=3
 ·subst g3;have h8:(ns.length+1)*16<=140737488355328:=by omega
  refine⟨c3,⟨p,ns++[[108,97,110,103]],vs,⟨st,fs,bd⟩,t⟩,?_,AO,?_⟩;·simp only[bG,bH,qZ];simp only[wL,cw,gA,bn,jh,nk,zI,wS] at ho⊢;omega
  rw[au (b:=ld) (rs:=_) (n:=1) rfl rfl];simp -implicitDefEqProofs [ld,u1,u2,u3,bJ,h8,cu,ck,ct]
 by_cases g4:k=4
 ·subst g4;obtain⟨c4,r,hr,hrs,u4⟩:=amo c3;refine⟨c4,⟨p,ns,vs,r,t⟩,by simp only[bG,bH] at hr⊢;omega,AO,?_⟩;try simp at u4
  rw[au (b:=ld) (rs:=_) (n:=1) rfl rfl];simp -implicitDefEqProofs [ld,u1,u2,u3,u4,cu,ck,ct]
 ·refine⟨c3,⟨p,ns,vs,⟨st,fs,bd⟩,t⟩,by simp only[bG,bH];omega,AO,?_⟩;rw[au (b:=ld) (rs:=_) (n:=1) rfl rfl];simp -implicitDefEqProofs [ld,u1,u2,u3,g0,g1,g2,g3,g4,cu,ck,ct]
end M
set_option maxHeartbeats 8000000
namespace M
open Go
def amh(c:bg)(n:Nat)(hn:n<=1000000):∃(c':bg) (l:List Bool),l.length<=n+2/\ev LI TT 121 [.ptr .own (aR c),.int .i64 n]=some (.row .own 1 (l.map eB),[.ptr .own (aR c'),.dead]):=by
 obtain⟨⟨⟨c',i⟩,out⟩,⟨h1,h2⟩,e⟩:=qx (xt:=0) (f:=ak (ev LI TT) (aq TT) HF)
  (λ(g:(bg×Nat)×List Bool)=>[(0,.az 100000 [] 0 0),(1,.int .i64 n),(5,.row .own 1 (g.2.map eB)),(6,.int .i64 g.1.2),(100000,.ptr .own (aR g.1.1))])
  (λg=>n+20 - g.1.2) (λg=>g.2.length<=g.1.2/\g.1.2<=n+2)
  (λg=>[(0,.az 100000 [] 0 0),(1,.int .i64 n),(5,.row .own 1 (g.2.map eB)),(6,.int .i64 g.1.2),(14,.bool false),(100000,.ptr .own (aR g.1.1))])
  (λg hg=>by
   obtain⟨⟨c,i⟩,out⟩:=g;obtain⟨h1,h2⟩:=hg;simp only at h1 h2;obtain⟨c1,v,v0,v1,e1⟩:=fL c 3 (by omega) (by omega);have hw1:IntKind.i64.wrap ((n:Int)+v)=n+v:=bO (by omega) (by omega);have dr:IntKind.i64.wrap ((n:Int)+v - 1)=n+v - 1:=bO (by omega) (by omega);by_cases h:(i:Int)<n+v - 1
   ·right;have hw:=aU i (by omega);obtain⟨c2,b,e2⟩:=DB c1 2 (by omega);have h8:out.length+1<=140737488355328:=by omega
    refine⟨((c2,i+1),out++[b]),⟨by simp;omega,by simp only;omega⟩,by simp only;omega,?_⟩;simp -implicitDefEqProofs [HF,NF,e1,e2,h,hw,hw1,dr,bJ,h8,cu,ck,ct]
   ·left;refine⟨((c1,i),out),⟨h1,h2⟩,?_⟩;simp -implicitDefEqProofs [HF,NF,e1,h,hw1,dr])
  ((c,0),[]) ⟨by simp,by simp⟩
 simp only at h1 h2;refine⟨c',out,by omega,?_⟩;simp at e;rw[au (b:=HG) (rs:=_) (n:=2) rfl rfl];simp -implicitDefEqProofs [HG,e]
@[irreducible] def nj(i:Nat):Nat:=1000+30000*i
def Iu(i:Nat):nj (i+1)=nj i+30000:=by unfold nj;omega
def U7{i:Nat}(h:i<=25):nj i<=751000:=by unfold nj;omega
def aiu:cG n7=true:=by decide+kernel
def aiv:aZ n7<=1000:=by decide+kernel
def amk(c:bg):∃(c':bg) (s:Sh),cG s=true/\aZ s<=751000/\ev LI TT 57 [.ptr .own (aR c)]=some (.agg (aG .own s),[.ptr .own (aR c')]):=by
 obtain⟨c0,N,n0,n1,u1⟩:=fL c 25 (by omega) (by omega);have u2:=QB
 obtain⟨⟨⟨c',i⟩,s⟩,⟨h1,h2,h3⟩,e⟩:=qx (xt:=0) (f:=ak (ev LI TT) (aq TT) vS)
  (λ(g:(bg×Nat)×Sh)=>[(0,.az 100000 [] 0 0),(2,.ptr .own [.row .own 1 [],.row .own 2 [],.row .own 9 [],.row .own 4 [],.int .i64 0,.int .i64 0]),(3,.ptr .own (aG .own g.2)),(4,.int .i64 N),(5,.int .i64 g.1.2),(100000,.ptr .own (aR g.1.1))])
  (λg=>50 - g.1.2) (λg=>g.1.2<=25/\cG g.2=true/\aZ g.2<=nj g.1.2)
  (λg=>[(0,.az 100000 [] 0 0),(2,.ptr .own [.row .own 1 [],.row .own 2 [],.row .own 9 [],.row .own 4 [],.int .i64 0,.int .i64 0]),(3,.ptr .own (aG .own g.2)),(4,.int .i64 N),(5,.int .i64 g.1.2),(11,.bool false),(100000,.ptr .own (aR g.1.1))])
  (λg hg=>by
   obtain⟨⟨c,i⟩,s⟩:=g;obtain⟨h1,h2,h3⟩:=hg;simp only at h1 h2 h3;by_cases h:(i:Int)<N
   ·right;have hw:=aU i (by omega);have hB:=U7 h1;have hd:=(jA h2).d;have dc:aZ s=bC s.aD+wL aX s.ai+wL aO s.ay:=rfl;obtain⟨c1,k,k0,k1,e1⟩:=fL c 12 (by omega) (by omega);by_cases g0:k=0
    ·subst g0;obtain⟨c2,b,hb,e2⟩:=V3 c1 i;have e3:=Qp s b (by omega) (by omega);rw[ax h2] at e3;have b1:=Ek (b:=b) h2;have b2:=El s b;generalize (cG s && lC s b)=bb at e3;generalize gT s b=s2 at e3 b1 b2;try simp at e2
     try simp at e3
     refine⟨((c2,i+1),s2),⟨by show i+1<=25;omega,b1,by show aZ s2<=nj (i+1);rw[Iu];omega⟩,by show 50 - (i+1)<50 - i;omega,?_⟩;simp -implicitDefEqProofs [vS,yW,yX,yY,yZ,h,hw,e1,e2,e3]
    by_cases g1:k=1
    ·subst g1;have e2:=Ag s.aD hd;have b2:=AG s.aD;have b1:cG (⟨e8 s.aD,s.ai,s.ay,s.next,s.seq⟩:Sh)=true:=Iw (xk hd) (by have:=(jA h2).b;simp only;omega) (jA h2).n (jA h2).q (λb hb=>dY.1 (jA h2).bs b hb) (GK.1 (jA h2).os);generalize e8 s.aD=d2 at e2 b1 b2;try simp at e2
     refine⟨((c1,i+1),⟨d2,s.ai,s.ay,s.next,s.seq⟩),⟨by show i+1<=25;omega,b1,by show bC d2+wL aX s.ai+wL aO s.ay<=nj (i+1);rw[Iu];omega⟩,by show 50 - (i+1)<50 - i;omega,?_⟩;simp -implicitDefEqProofs [vS,yW,yX,yY,yZ,h,hw,e1,e2]
    by_cases g2:k=2
    ·subst g2;obtain⟨hc0,A4,hp1⟩:=fR hd;obtain⟨c2,kp,hk,e2⟩:=amh c1 s.aD.pending.length (by omega);have e3:=ZG s.aD kp hd (by omega);have d1:=EI kp hd;have d2:=EJ s.aD kp;have e4:=ZL (eZ s.aD kp) (by omega);unfold sS at e4;rw[ax d1] at e4;have b1:=ago d1;have b2:=GD (eZ s.aD kp);generalize iG (eZ s.aD kp)=s2 at e4 b1 b2;generalize eZ s.aD kp=d3 at e3 e4 d2 b2;try simp at e2
     try simp at e3
     try simp at e4
     refine⟨((c2,i+1),s2),⟨by show i+1<=25;omega,b1,by show aZ s2<=nj (i+1);rw[Iu];omega⟩,by show 50 - (i+1)<50 - i;omega,?_⟩;simp -implicitDefEqProofs [vS,yW,yX,yY,yZ,h,hw,e1,e2,e3,e4]
    ·obtain⟨c2,ob,hb,ht,e2⟩:=V1 c1 i;have e3:=Qv s ob (by omega) (by omega);rw[ax h2] at e3;have b1:=Tq (o:=ob) h2;have b2:=Ts s ob;generalize (cG s && nM s ob)=bb at e3;generalize kA s ob=s2 at e3 b1 b2;try simp at e2
     try simp at e3
     refine⟨((c2,i+1),s2),⟨by show i+1<=25;omega,b1,by show aZ s2<=nj (i+1);rw[Iu];omega⟩,by show 50 - (i+1)<50 - i;omega,?_⟩;simp -implicitDefEqProofs [vS,yW,yX,yY,yZ,h,hw,e1,e2,e3,g0,g1,g2]
   ·left;refine⟨((c,i),s),⟨h1,h2,h3⟩,?_⟩;simp -implicitDefEqProofs [vS,yW,h])
  ((c0,0),n7) ⟨by simp,aiu,by show aZ n7<=nj 0;have:=aiv;unfold nj;omega⟩
 simp only at h1 h2 h3;have hB:=U7 h1;refine⟨c',s,h2,by omega,?_⟩;try simp[n7] at u2
 try simp[n7] at e
 rw[au (b:=HX) (rs:=_) (n:=1) rfl rfl];simp -implicitDefEqProofs [HX,u1,u2,e]
end M
set_option maxHeartbeats 8000000
namespace M
open Go
def ZH(d:aV)(at_:Int)(t:ag)(h:cg d=true)(hp:d.pending.length=16):ev LI TT 87 [.agg (bW .af d),.int .i64 at_,.str ⟨t.toArray⟩]=some (.av [.agg (bW .own d),.bool false],[.dead,.dead,.dead]):=by
 rw[au (b:=yw) (rs:=[.c 6 2 true 27,.t 7]) (n:=3) rfl rfl];obtain⟨h0,h1,h1'⟩:=fR h;have h2:=uh d (by omega);have h3:=Ez d (by omega) (by omega);rw[h] at h2;try simp at h2
 try simp at h3
 simp -implicitDefEqProofs [yw,h2,h3,hp,bJ,rowAt];all_goals (repeat' split)<;>first|rfl|omega|simp_all<;>omega|skip
def ag0{d:aV}{a:Int}{t:ag}(h:cg d=true)(ha:0<=a/\a<=19)(hp:d.pending.length<16):cg ⟨d.cells,d.pending++[⟨a,t⟩]⟩=true:=by
 obtain⟨h0,h1,h2⟩:=fR h;unfold cg at h⊢;simp only[aB,bp] at h⊢;refine⟨⟨dY.2 λw hw=>?_,h.1.2⟩,by simp;omega⟩;rcases dy.1 hw with hw|hw;·exact dY.1 h.1.1 w hw
 ·simp at hw;rw[hw];simpa [nU] using ha
@[irreducible] def mD(i:Nat):Nat:=200+50*i
def ES(i:Nat):mD (i+1)=mD i+50:=by unfold mD;omega
def Rg{i:Nat}(h:i<=22):mD i<=1300:=by unfold mD;omega
def aaw:cg ⟨List.replicate 20 [],[]⟩=true:=by decide
def aax:bC ⟨List.replicate 20 [],[]⟩<=200:=by decide
def ami(c:bg):∃(c':bg) (d:aV),cg d=true/\bC d<=2000/\ev LI TT 123 [.ptr .own (aR c)]=some (.agg (bW .own d),[.ptr .own (aR c')]):=by
 obtain⟨c0,N,n0,n1,u1⟩:=fL c 22 (by omega) (by omega);have u2:=Qs
 obtain⟨⟨⟨c',i⟩,d⟩,⟨h1,h2,h3⟩,e⟩:=qx (xt:=0) (f:=ak (ev LI TT) (aq TT) vI)
  (λ(g:(bg×Nat)×aV)=>[(0,.az 100000 [] 0 0),(2,.ptr .own [.row .own 1 [],.row .own 2 []]),(3,.ptr .own (bW .own g.2)),(4,.int .i64 N),(5,.int .i64 g.1.2),(100000,.ptr .own (aR g.1.1))])
  (λg=>50 - g.1.2) (λg=>g.1.2<=22/\cg g.2=true/\bC g.2<=mD g.1.2)
  (λg=>[(0,.az 100000 [] 0 0),(2,.ptr .own [.row .own 1 [],.row .own 2 []]),(3,.ptr .own (bW .own g.2)),(4,.int .i64 N),(5,.int .i64 g.1.2),(13,.bool false),(100000,.ptr .own (aR g.1.1))])
  (λg hg=>by
   obtain⟨⟨c,i⟩,d⟩:=g;obtain⟨h1,h2,h3⟩:=hg;simp only at h1 h2 h3;by_cases h:(i:Int)<N
   ·right;have hw:=aU i (by omega);have hB:=Rg h1;obtain⟨q0,q1,q2⟩:=fR h2;obtain⟨c1,a,a0,a1,e1⟩:=fL c 20 (by omega) (by omega);obtain⟨c2,t,ht,e2⟩:=eM c1 [[],[97],[98],[99,99]] 4 (by simp) (by simp) (by simp);obtain⟨c3,b,e4⟩:=DB c2 9 (by omega);simp at e2;by_cases hp:d.pending.length<16
    ·have e3:=J6 d a t h2 ⟨a0,by omega⟩ hp;have o1:=ag0 (t:=t) h2 ⟨a0,by omega⟩ hp;have o2:bC ⟨d.cells,d.pending++[⟨a,t⟩]⟩<=bC d+10:=by simp[bC,wL,cY];omega
     generalize (⟨d.cells,d.pending++[⟨a,t⟩]⟩:aV)=d2 at e3 o1 o2;try simp at e3
     cases b;·refine⟨((c3,i+1),d2),⟨by show i+1<=22;omega,o1,by show bC d2<=mD (i+1);rw[ES];omega⟩,by show 50 - (i+1)<50 - i;omega,?_⟩;simp -implicitDefEqProofs [vI,yG,yH,yI,yN,vP,yR,qR,tq,tu,vQ,tA,vJ,vK,yJ,vL,yK,yL,tn,vM,vN,yM,vO,yO,yP,yQ,h,hw,e1,e2,e4,cu,ck,ct,e3]
     ·have e5:=Ag d2 o1;have o3:=xk o1;have o4:=AG d2;generalize e8 d2=d3 at e5 o3 o4;try simp at e5
      refine⟨((c3,i+1),d3),⟨by show i+1<=22;omega,o3,by show bC d3<=mD (i+1);rw[ES];omega⟩,by show 50 - (i+1)<50 - i;omega,?_⟩;simp -implicitDefEqProofs [vI,yG,yH,yI,yN,vP,yR,qR,tq,tu,vQ,tA,vJ,vK,yJ,vL,yK,yL,tn,vM,vN,yM,vO,yO,yP,yQ,h,hw,e1,e2,e4,cu,ck,ct,e3,e5]
    ·have e3:=ZH d a t h2 (by omega);try simp at e3
     cases b;·refine⟨((c3,i+1),d),⟨by show i+1<=22;omega,h2,by show bC d<=mD (i+1);rw[ES];omega⟩,by show 50 - (i+1)<50 - i;omega,?_⟩;simp -implicitDefEqProofs [vI,yG,yH,yI,yN,vP,yR,qR,tq,tu,vQ,tA,vJ,vK,yJ,vL,yK,yL,tn,vM,vN,yM,vO,yO,yP,yQ,h,hw,e1,e2,e4,cu,ck,ct,e3]
     ·have e5:=Ag d h2;have o1:=xk h2;have o2:=AG d;generalize e8 d=d2 at e5 o1 o2;try simp at e5
      refine⟨((c3,i+1),d2),⟨by show i+1<=22;omega,o1,by show bC d2<=mD (i+1);rw[ES];omega⟩,by show 50 - (i+1)<50 - i;omega,?_⟩;simp -implicitDefEqProofs [vI,yG,yH,yI,yN,vP,yR,qR,tq,tu,vQ,tA,vJ,vK,yJ,vL,yK,yL,tn,vM,vN,yM,vO,yO,yP,yQ,h,hw,e1,e2,e4,cu,ck,ct,e3,e5]
   ·left;refine⟨((c,i),d),⟨h1,h2,h3⟩,?_⟩;simp -implicitDefEqProofs [vI,yG,h])
  ((c0,0),⟨List.replicate 20 [],[]⟩) ⟨by simp,aaw,by show bC _<=mD 0;have:=aax;unfold mD;omega⟩
 simp only at h1 h2 h3;have hB:=Rg h1;refine⟨c',d,h2,by omega,?_⟩;try simp at u2
 try simp at e
 rw[au (b:=HH) (rs:=_) (n:=1) rfl rfl];simp -implicitDefEqProofs [HH,u1,u2,e]
end M
set_option maxHeartbeats 8000000
namespace M
open Go
def amg(c:bg):∃(c':bg) (d:aV),bC d<=5000/\(∀w∈d.pending,bI w.at_)/\ev LI TT 60 [.ptr .own (aR c)]=some (.agg (bW .own d),[.ptr .own (aR c')]):=by
 obtain⟨c1,d,hd,hw,u1⟩:=ami c;obtain⟨q0,q1,q2⟩:=fR hd;obtain⟨c2,k,k0,k1,u2⟩:=fL c1 15 (by omega) (by omega);have hb:∀w∈d.pending,bI w.at_:=λw hw=>by have:=q0 w hw;unfold bI;omega
 have dc:bC d=wL wS d.cells+wL cY d.pending:=rfl;try simp at u1
 by_cases g0:k=0
 ·subst g0;obtain⟨cs,ps⟩:=d;simp only at q1 q2 dc hb u1;refine⟨c2,⟨cs.tail,ps⟩,?_,hb,?_⟩
  ·show wL wS cs.tail+wL cY ps<=5000
   have:wL wS cs.tail<=wL wS cs:=by
    cases cs with
    |nil=>simp
    |cons a l=>simp[wL];omega
   omega
  have h1:1<=cs.length:=by omega
  have h1':(1:Int)<=cs.length:=by omega
  have ht:List.take cs.length (cs.map eS)=cs.map eS:=tM (by simp);have ht2:X.clean.bE (cs.map eS).tail=true:=by have:=aam cs.tail;rwa [List.map_tail] at this
  rw[au (b:=pz) (rs:=_) (n:=1) rfl rfl];simp -implicitDefEqProofs [pz,yS,yT,u1,u2,h1,h1',sU,ht,ht2]
 by_cases g1:k=1
 ·subst g1;obtain⟨c3,a,ha,u3⟩:=wm c2 [-1,19,20] (by simp) (by simp);obtain⟨cs,ps⟩:=d;simp only at q1 q2 dc hb u1;simp at u3;have h8:(ps.length+1)*24<=140737488355328:=by omega
  refine⟨c3,⟨cs,ps++[⟨a,[]⟩]⟩,?_,λw hw=>?_,?_⟩;·show wL wS cs+wL cY (ps++[⟨a,[]⟩])<=5000;simp[wL,cY] at dc⊢;omega
  ·rcases dy.1 hw with hw|hw;·exact hb w hw
   ·simp at hw ha;rw[hw];unfold bI;simp only;omega
  rw[au (b:=pz) (rs:=_) (n:=1) rfl rfl];simp -implicitDefEqProofs [pz,yS,yT,u1,u2,u3,bJ,h8,cu,ck,ct]
 by_cases g2:k=2
 ·subst g2;obtain⟨c3,v,v0,v1,u3⟩:=fL c2 2 (by omega) (by omega);obtain⟨n,rfl⟩:∃n:Nat,v=n:=⟨v.toNat,by omega⟩;have hw1:IntKind.i64.wrap (16+(n:Int))=((16+n:Nat):Int):=by rw[bO (by omega) (by omega)];omega
  obtain⟨cs,ps⟩:=d;simp only at q1 q2 dc hb u1;refine⟨c3,⟨cs,List.replicate (16+n) ⟨0,[]⟩⟩,?_,λw hw=>?_,?_⟩
  ·show wL wS cs+wL cY (List.replicate (16+n) ⟨0,[]⟩)<=5000;have:wL cY (List.replicate (16+n) ⟨0,[]⟩)<=40:=by simp[wL,cY];omega
   omega
  ·have:=(ON.1 hw).2;rw[this];unfold bI;simp
  rw[au (b:=pz) (rs:=_) (n:=1) rfl rfl];simp -implicitDefEqProofs [pz,yS,yT,u1,u2,u3,hw1,cu,ck,ct];have hz:(16+(n:Int)).toNat=16+n:=by omega
  refine⟨⟨by omega,by omega⟩,?_,hz⟩;rw[hz];have:=aan (List.replicate (16+n) ⟨0,[]⟩);simpa using this
 ·refine⟨c2,d,by omega,hb,?_⟩;rw[au (b:=pz) (rs:=_) (n:=1) rfl rfl];simp -implicitDefEqProofs [pz,yS,yT,u1,u2,g0,g1,g2]
end M
set_option maxHeartbeats 8000000
namespace M
open Go
def Ko:∀(a b:List (List X)),X.clean.bE a=true->X.clean.bE b=true->X.clean.bE (a++b)=true
 |[],b,_,h=>h
 |x::a,b,h1,h2=>by simp only[X.clean.bE,aB,fM] at h1⊢;exact⟨h1.1,Ko a b h1.2 h2⟩
structure wK (R:List (List X)) (os:List Kp):Prop where
 cl:X.clean.bE R=true
 md:X.bT .af R=os.map (aj .af)
 len:R.length=os.length
 el:∀i (h:i<os.length),∃m:Md,(m=.own\/m=.sl)/\R[i]?=some (aj m os[i])
def yu(os:List Kp):wK (os.map (aj .own)) os:=⟨Q2 os,Mr .af .own os,by simp,λi h=>⟨.own,.inl rfl,by simp[h]⟩⟩
def ail(k:Kp)(l:List Kp):wK (aj .sl k::(l.map (aj .own)++[aj .sl k])) (k::l++[k]):=by
 refine⟨?_,?_,by simp,λi h=>?_⟩;·have h1:=aao [k];exact Ko [aj .sl k] _ h1 (Ko _ _ (Q2 l) h1)
 ·have h1:=Mr .af .sl [k];have h2:=Mr .af .own l;simp only[bn,jh,X.bT] at h1;rw[show aj .sl k::(l.map (aj .own)++[aj .sl k])=[aj .sl k]++(l.map (aj .own)++[aj .sl k]) from rfl,GA,GA,h2];simp only[X.bT,h1];simp
 ·cases i with
  |zero=>exact⟨.sl,.inr rfl,by simp⟩
  |succ i=>
   simp only[cw,eu,gA] at h;by_cases hi:i<l.length;·exact⟨.own,.inl rfl,by simp[kK,hi,List.getElem_append_left]⟩
   ·obtain rfl:i=l.length:=by simp at h;omega
    exact⟨.sl,.inr rfl,by simp⟩
def amj(c c1 c2:bg)(s:Sh)(h2:aZ s<=1000000)(hok:cG s=true)(u1:ev LI TT 57 [.ptr .own (aR c)]=some (.agg (aG .own s),[.ptr .own (aR c1)]))(u2:ev LI TT 58 [.ptr .own (aR c1),.int .i64 20]=some (.int .i64 3,[.ptr .own (aR c2),.dead])):∃(R:List (List X)) (os:List Kp),wK R os/\wL aX os<=wL aX s.ai+1400/\ev LI TT 20 [.ptr .own (aR c)]=some (.agg [.row .own 1 (s.aD.cells.map eS),.row .own 2 (s.aD.pending.map eW),.row .own 9 R,.row .own 4 (s.ay.map aY),.int .i64 s.next,.int .i64 s.seq],[.ptr .own (aR c2)]):=by
 obtain⟨⟨cs,ps⟩,os,bs,nx,sq⟩:=s;simp only[aZ] at h2;try simp at u1
 cases os with
 |nil=>refine⟨[],[],yu [],by simp,?_⟩;rw[au (b:=jS) (rs:=_) (n:=1) rfl rfl];simp -implicitDefEqProofs [jS,qS,u1,u2]
 |cons k l=>
  have h8:(l.length+1+1)*136<=140737488355328:=by have:=bh (w:=aX) (k::l);simp only[cw] at this;omega
  have h0:(0:Int)<(l.length:Int)+1:=by omega
  refine⟨_,_,ail k l,?_,?_⟩
  ·have h3:aX k<=1300:=sY (aiw hok bD);rw[qZ];have:wL aX [k]=1+aX k:=by simp[wL]
   show wL aX (k::l)+wL aX [k]<=wL aX (k::l)+1400;omega
  rw[au (b:=jS) (rs:=_) (n:=1) rfl rfl];simp -implicitDefEqProofs [jS,qS,u1,u2,bJ,h8,h0,ghost,r9,kN,uD,oV,X.pfx,kE]
def V4(c:bg):∃(c':bg) (s:Sh) (R:List (List X)),wK R s.ai/\aZ s<=760000/\ev LI TT 20 [.ptr .own (aR c)]=some (.agg [.row .own 1 (s.aD.cells.map eS),.row .own 2 (s.aD.pending.map eW),.row .own 9 R,.row .own 4 (s.ay.map aY),.int .i64 s.next,.int .i64 s.seq],[.ptr .own (aR c')]):=by
 obtain⟨c1,s,hs,hw,u1⟩:=amk c;obtain⟨c2,k,k0,k1,u2⟩:=fL c1 20 (by omega) (by omega);by_cases g3:k=3;·subst g3;obtain⟨R,os,h1,h2,e⟩:=amj c c1 c2 s (by omega) hs u1 u2;refine⟨c2,⟨s.aD,os,s.ay,s.next,s.seq⟩,R,h1,?_,e⟩;simp only[aZ] at hw⊢;omega
 have hab:=(jA hs).b;try simp at u1
 simp only[aZ] at hw;by_cases g0:k=0;·subst g0;obtain⟨c3,n,hn,u3⟩:=wm c2 [4,5,19,20] (by simp) (by simp);simp at u3;refine⟨c3,⟨s.aD,s.ai,s.ay,n,s.seq⟩,_,yu _,by simp only[aZ];omega,?_⟩;rw[au (b:=jS) (rs:=_) (n:=1) rfl rfl];simp -implicitDefEqProofs [jS,qS,u1,u2,u3,cu,ck,ct]
 by_cases g1:k=1;·subst g1;obtain⟨c3,n,hn,u3⟩:=wm c2 [0,1,100000,100001] (by simp) (by simp);simp at u3;refine⟨c3,⟨s.aD,s.ai,s.ay,s.next,n⟩,_,yu _,by simp only[aZ];omega,?_⟩;rw[au (b:=jS) (rs:=_) (n:=1) rfl rfl];simp -implicitDefEqProofs [jS,qS,u1,u2,u3,cu,ck,ct]
 by_cases g2:k=2
 ·subst g2;obtain⟨c3,b,hb,u3⟩:=V2 c2;try simp at u3
  have h8:(s.ay.length+1)*48<=140737488355328:=by omega
  refine⟨c3,⟨s.aD,s.ai,s.ay++[b],s.next,s.seq⟩,_,yu _,?_,?_⟩
  ·simp only[aZ,qZ];have:wL aO [b]=1+aO b:=by simp[wL]
   omega
  rw[au (b:=jS) (rs:=_) (n:=1) rfl rfl];simp -implicitDefEqProofs [jS,qS,u1,u2,u3,bJ,h8,cu,ck,ct]
 by_cases g4:k=4
 ·subst g4;obtain⟨c3,d,hd,hp,u3⟩:=amg c2;try simp at u3
  refine⟨c3,⟨d,s.ai,s.ay,s.next,s.seq⟩,_,yu _,by simp only[aZ];omega,?_⟩;rw[au (b:=jS) (rs:=_) (n:=1) rfl rfl];simp -implicitDefEqProofs [jS,qS,u1,u2,u3,cu,ck,ct]
 ·refine⟨c2,s,_,yu _,by simp only[aZ];omega,?_⟩;rw[au (b:=jS) (rs:=_) (n:=1) rfl rfl];simp -implicitDefEqProofs [jS,qS,u1,u2,g0,g1,g2,g3,g4,cu,ck,ct]
end M
set_option maxHeartbeats 4000000
namespace M
open Go
def eV(k:Kp):ag:=k.obj.path++64::cy k.obj.t
def pJ(i:Nat)(g:ag)(k:Kp):ag:=(if i=0 then g else g++[32])++eV k
def U9:∀(l:List Kp) (i:Nat) (g:ag),i≠0->foldI pJ i l g=g++Lib.joinTail [32] (l.map eV)
 |[],i,g,_=>by simp[foldI,Lib.joinTail]
 |k::l,i,g,h=>by rw[foldI,U9 l (i+1) _ (by omega)];simp[pJ,h,Lib.joinTail]
def aix(l:List Kp):foldI pJ 0 l []=Lib.join (l.map eV) [32]:=by
 cases l with
 |nil=>rfl
 |cons k l=>rw[foldI,U9 l 1 _ (by omega),bn,Lib.join_cons];simp[pJ]
def Iy{l:List Kp}{k:Kp}(h:k∈l):(eV k).length<=wL aX l+8:=by have h1:=qY h;have h2:bG k.obj=k.obj.path.length+wL wS k.obj.names+wL wS k.obj.values+bH k.obj.resp:=rfl;have h3:=mT k.obj.t;unfold eV;simp;omega
def vZ(s:Sh):ag:=if cG s=true then (if s.ai=[] then [45] else Lib.join (s.ai.map eV) [32])++(if s.ay=[] then [] else [32,33]++cy (s.ay.length:Int)) else []
def U8(s:Sh):s.ay.length<=aZ s:=by
 have h1:=bh (w:=aO) s.ay;have h2:wL aO s.ay<=aZ s:=by unfold aZ;omega
 omega
def vY(s:Sh):wL aX s.ai<=aZ s:=by unfold aZ;omega
def XQ(s:Sh)(hb:aZ s<=1048576)(g:ag)(hinv:g.length<=0*2097152):aI (ak (ev LI TT) (aq TT) yE) [(1,.ptr .own (aG .af s)),(3,.str ⟨(g).toArray⟩),(4,.int .i64 0)]=some (.exit 0,[(1,.ptr .own (aG .af s)),(3,.str ⟨((foldI (pJ) 0 (s.ai) g)).toArray⟩),(4,.int .i64 (s.ai).length),(12,.bool false)]):=by
 refine fP (f:=ak (ev LI TT) (aq TT) yE) (s.ai) (λi (g:ag)=>[(1,.ptr .own (aG .af s)),(3,.str ⟨(g).toArray⟩),(4,.int .i64 i)]) (pJ) (λg=>[(1,.ptr .own (aG .af s)),(3,.str ⟨(g).toArray⟩),(4,.int .i64 (s.ai).length),(12,.bool false)]) (λi (g:ag)=>g.length<=i*2097152) g hinv (λi b g hi hl hinv=>?_) (λi b g hi hinv=>?_) (λg hinv=>?_)
 ·have hw:=aU i (by have:=bh (w:=aX) s.ai;have:=vY s;omega);obtain⟨_,rfl⟩:=aJ.1 hi;have h1:=Iy (cq hl);have h2:=vY s;have h3:=bh (w:=aX) s.ai;have u1:=oy (s.ai[i]).obj.t;have h4:(eV s.ai[i]).length=(s.ai[i]).obj.path.length+(cy (s.ai[i]).obj.t).length+1:=by unfold eV;simp;omega
  have Fi:(⟨#[64]⟩:ByteArray)=⟨([64]:ag).toArray⟩:=rfl;have h32:(⟨#[32]⟩:ByteArray)=⟨([32]:ag).toArray⟩:=rfl;have hp:g.length<=2199023255552:=by omega
  have hs1:g.length<=9223372036854775806:=by omega
  have hs2:g.length+1<=9223372036854775807:=by omega
  have hs3:g.length+(s.ai[i]).obj.path.length<=9223372036854775806:=by omega
  have ae9:g.length+(s.ai[i]).obj.path.length<=9223372036854775807:=by omega
  have hs4:g.length+((s.ai[i]).obj.path.length+1)<=9223372036854775807:=by omega
  by_cases g0:i=0
  ·subst g0;have hg:g=[]:=by cases g with|nil=>rfl|cons a b=>simp at hinv
   subst hg;have hq1:(s.ai[0]).obj.path.length<=9223372036854775806:=by omega
   have sC:(s.ai[0]).obj.path.length+1+(cy (s.ai[0]).obj.t).length<=9223372036854775807:=by omega
   have hq3:(s.ai[0]).obj.path.length<=9223372036854775807:=by omega
   simp at hw;simp -implicitDefEqProofs [yE,Ht,hl,hw,u1,pJ,eV,Fi,eX,hq1,sC,hq3]
  have gp:0<i:=by omega
  have gpi:(0:Int)<i:=by omega
  have hq4:g.length+1+(s.ai[i]).obj.path.length<=9223372036854775807:=by omega
  have hq5:g.length+((s.ai[i]).obj.path.length+1)<=9223372036854775806:=by omega
  have hq6:g.length+((s.ai[i]).obj.path.length+1+1)+(cy (s.ai[i]).obj.t).length<=9223372036854775807:=by omega
  simp -implicitDefEqProofs [yE,Ht,hl,hw,u1,pJ,eV,Fi,h32,eX,g0,gp,gpi,hs1,hs2,hs3,ae9,hs4,hq4,hq5,hq6];all_goals try omega
 ·have h1:=Iy (mo hi);have h2:=vY s;have h3:(pJ i g b).length<=g.length+1+(eV b).length:=by unfold pJ;split<;>simp<;>omega
  try simp only at hinv
  try simp only
  omega
 ·simp -implicitDefEqProofs [yE,Ht]
def Tm:∀(l:List Kp) (n:Nat),(∀k∈l,(eV k).length<=n)->(Lib.joinTail [32] (l.map eV)).length<=l.length*(n+1)
 |[],n,_=>by simp[Lib.joinTail]
 |k::l,n,h=>by have ih:=Tm l n λx hx=>h x (bY _ hx);have h1:=h k (bD ..);simp only[Lib.joinTail,bn,Ju,eu,cw,gA] at ih⊢;rw[fk];omega
def Tn(s:Sh)(hb:aZ s<=1048576):(Lib.join (s.ai.map eV) [32]).length<=2199023255552/\(s.ai≠[]->Lib.join (s.ai.map eV) [32]≠[]):=by
 have h2:=vY s;have h3:=bh (w:=aX) s.ai;have hk:∀k∈s.ai,(eV k).length<=1048584:=λk hk=>by have:=Iy hk;omega
 cases hs:s.ai with
 |nil=>simp[Lib.join_nil]
 |cons k l=>
  rw[hs] at hk h3 h2;have h4:=Tm l 1048584 λx hx=>hk x (bY _ hx);have h5:=hk k (bD ..);have h6:l.length<=1048576:=by simp at h3;omega
  have h7:l.length*(1048584+1)<=1048576*1048585:=OX h6 (ek _);rw[bn,Lib.join_cons];refine⟨by simp only[eu];omega,λ_ h=>?_⟩;have:=dz List.length h;simp[eV] at this
def Ka(s:Sh)(hb:aZ s<=1048576):ev LI TT 9 [.agg (aG .af s)]=some (.str ⟨(vZ s).toArray⟩,[.dead]):=by
 rw[au (b:=tg) (rs:=[.t 2]) (n:=1) rfl rfl];have hj:=Tn s hb;have K7:s.ay.length<=1048576:=by have:=U8 s;omega
 unfold vZ;have h2:=mT (s.ay.length:Int);have hsh:(⟨#[32,33]⟩:ByteArray)=⟨([32,33]:ag).toArray⟩:=rfl;have hds:(⟨#[45]⟩:ByteArray)=⟨([45]:ag).toArray⟩:=rfl;have u1:=Eu s (by omega);try simp at u1
 have u2:=XQ s hb [] (by simp);try simp at u2
 have u3:=oy (s.ay.length:Int);try simp at u3
 rw[aix] at u2;generalize cG s=b1 at u1;cases b1;·simp -implicitDefEqProofs [tg,u1]
 generalize hJ:Lib.join (s.ai.map eV) [32]=J at u2 hj;try simp at u2
 have hjl:J.length<=9223372036854775805:=by omega
 have Lm:J.length+2+(cy (s.ay.length:Int)).length<=9223372036854775807:=by omega
 by_cases g1:s.ai=[]
 ·have K2:J=[]:=by rw[<-hJ,g1];rfl
  subst K2;by_cases g2:s.ay=[]
  ·have hb0:¬0<s.ay.length:=by rw[g2];simp
   have uH:¬(0:Int)<s.ay.length:=by omega
   simp -implicitDefEqProofs [tg,u1,u2,u3,eq_true g1,eq_true g2,hb0,uH]
  ·have g3:0<s.ay.length:=DY.2 g2;have g4:(0:Int)<s.ay.length:=by omega
   have g5:1+2+(cy (s.ay.length:Int)).length<=9223372036854775807:=by omega
   simp -implicitDefEqProofs [tg,u1,u2,u3,eq_true g1,eq_false g2,g3,g4,g5,hsh,hds,eX];try omega
 have Su:=hj.2 g1;by_cases g2:s.ay=[]
 ·have hb0:¬0<s.ay.length:=by rw[g2];simp
  have uH:¬(0:Int)<s.ay.length:=by omega
  simp -implicitDefEqProofs [tg,u1,u2,u3,eq_false g1,eq_true g2,eq_false Su,hb0,uH]
 have g3:0<s.ay.length:=DY.2 g2;have g4:(0:Int)<s.ay.length:=by omega
 simp -implicitDefEqProofs [tg,u1,u2,u3,eq_false g1,eq_false g2,g3,g4,eq_false Su,hsh,eX,hjl,Lm];all_goals try omega
def Xj(s:Sh)(hb:aZ s<=1048576):aI (ak (ev LI TT) (aq TT) BD) [(1,.ptr .own (aG .af s)),(3,.row .own 1 (([]).map eS)),(10,.az 1 [] 0 2),(11,.row .af 9 (s.ai.map (aj .af))),(12,.int .i64 s.ai.length),(13,.int .i64 0)]=some (.exit 0,[(1,.ptr .own (aG .af s)),(3,.row .own 1 ((((s.ai).flatMap (λk=>[eV k]))).map eS)),(10,.az 1 [] 0 2),(11,.row .af 9 (s.ai.map (aj .af))),(12,.int .i64 s.ai.length),(13,.int .i64 (s.ai).length),(14,.bool false)]):=by
 refine oO (f:=ak (ev LI TT) (aq TT) BD) (s.ai) (λk=>[eV k]) (λi out=>[(1,.ptr .own (aG .af s)),(3,.row .own 1 ((out).map eS)),(10,.az 1 [] 0 2),(11,.row .af 9 (s.ai.map (aj .af))),(12,.int .i64 s.ai.length),(13,.int .i64 i)]) (λout=>[(1,.ptr .own (aG .af s)),(3,.row .own 1 ((out).map eS)),(10,.az 1 [] 0 2),(11,.row .af 9 (s.ai.map (aj .af))),(12,.int .i64 s.ai.length),(13,.int .i64 (s.ai).length),(14,.bool false)]) (λi b out hi hl hout=>?_) (λout hout=>?_)
 ·have hw:=aU i (by have:=bh (w:=aX) s.ai;have:=vY s;omega);obtain⟨_,rfl⟩:=aJ.1 hi;have hx:=Iy (cq hl);have h2:=vY s;have h3:=bh (w:=aX) s.ai;have hlo:out.length=i:=by rw[hout];exact xj _ _ _ (by omega)
  have hlz:(i+1)*16<=140737488355328:=by omega
  have h4:(eV s.ai[i]).length=(s.ai[i]).obj.path.length+(cy (s.ai[i]).obj.t).length+1:=by unfold eV;simp;omega
  have Fi:(⟨#[64]⟩:ByteArray)=⟨([64]:ag).toArray⟩:=rfl;have hq1:(s.ai[i]).obj.path.length<=9223372036854775806:=by omega
  have sC:(s.ai[i]).obj.path.length+1+(cy (s.ai[i]).obj.t).length<=9223372036854775807:=by omega
  have u1:=Eo (s.ai[i]).obj.t;try simp at u1
  simp -implicitDefEqProofs [BD,LM,hl,hw,u1,hlo,hlz,bJ,eV,Fi,eX,hq1,sC]
 ·simp -implicitDefEqProofs [BD,LM]
def J3(s:Sh)(hb:aZ s<=1048576):ev LI TT 8 [.agg (aG .af s)]=some (.str ⟨(vZ s).toArray⟩,[.dead]):=by
 rw[au (b:=sH) (rs:=[.t 2]) (n:=1) rfl rfl];have hj:=Tn s hb;have hol:s.ai.length<=1048576:=by have:=bh (w:=aX) s.ai;have:=vY s;omega
 have K7:s.ay.length<=1048576:=by have:=U8 s;omega
 unfold vZ;have h2:=mT (s.ay.length:Int);have hsh:(⟨#[32,33]⟩:ByteArray)=⟨([32,33]:ag).toArray⟩:=rfl;have hds:(⟨#[45]⟩:ByteArray)=⟨([45]:ag).toArray⟩:=rfl;have u1:=rK s (by omega);try simp at u1
 have u2:=Xj s hb;try simp at u2
 have u3:=Eo (s.ay.length:Int);try simp at u3
 rw[AD] at u2;have u4:=aad (s.ai.map eV) [32] (by omega) (by simp;omega);generalize cG s=b1 at u1;cases b1;·simp -implicitDefEqProofs [sH,u1]
 generalize hJ:Lib.join (s.ai.map eV) [32]=J at u4 hj;have gW:s.ai.map eV=[]↔s.ai=[]:=by simp
 generalize s.ai.map eV=W at u2 u4 gW hJ;try simp at u2
 try simp at u4
 have hjl:J.length<=9223372036854775805:=by omega
 have Lm:J.length+(2+(cy (s.ay.length:Int)).length)<=9223372036854775807:=by omega
 have SV:2+(cy (s.ay.length:Int)).length<=9223372036854775807:=by omega
 by_cases g1:s.ai=[]
 ·have xm:=gW.2 g1;have K2:J=[]:=by rw[<-hJ,xm];rfl
  subst K2;by_cases g2:s.ay=[]
  ·have hb0:¬0<s.ay.length:=by rw[g2];simp
   have uH:¬(0:Int)<s.ay.length:=by omega
   simp -implicitDefEqProofs [sH,u1,u2,u3,u4,eq_true g1,eq_true xm,eq_true g2,hb0,uH]
  ·have g3:0<s.ay.length:=DY.2 g2;have g4:(0:Int)<s.ay.length:=by omega
   simp -implicitDefEqProofs [sH,u1,u2,u3,u4,eq_true g1,eq_true xm,eq_false g2,g3,g4,SV,hsh,hds,eX];try omega
 have xm:=mt gW.1 g1;by_cases g2:s.ay=[]
 ·have hb0:¬0<s.ay.length:=by rw[g2];simp
  have uH:¬(0:Int)<s.ay.length:=by omega
  simp -implicitDefEqProofs [sH,u1,u2,u3,u4,eq_false g1,eq_false xm,eq_true g2,hb0,uH]
 have g3:0<s.ay.length:=DY.2 g2;have g4:(0:Int)<s.ay.length:=by omega
 simp -implicitDefEqProofs [sH,u1,u2,u3,u4,eq_false g1,eq_false xm,eq_false g2,g3,g4,hsh,eX,hjl,Lm,SV];all_goals try omega
end M
set_option maxHeartbeats 8000000
namespace M
open Go
def ZD(code:List UInt8):ev LI TT 4 [.row .af 1 (code.map eU)]=some (.bool (decide (1048576<code.length)),[.dead]):=by rw[au (b:=Gu) (rs:=[.t 2]) (n:=1) rfl rfl];simp -implicitDefEqProofs [Gu];omega
def Sa(a:Int)(ha:0<=a/\a<=19):∀(ws:List Wr) (i:Nat) (cs:List ag),cs.length=20->(∀w∈ws,0<=w.at_/\w.at_<=19)->(foldI (fO (fH [] true)) i ws cs).getD a.toNat []=ws.foldl (λout w=>if w.at_=a then w.text else out) (cs.getD a.toNat [])
 |[],i,cs,_,_=>rfl
 |w::ws,i,cs,hc,hw=>by
  have h0:=hw w bD;have hl:(fO (fH [] true) i cs w).length=20:=by rw[BT];exact hc
  rw[foldI,Sa a ha ws (i+1) _ hl (λx hx=>hw x (bY _ hx)),ou];congr 1;unfold fO;simp only[fH,Bool.true_or,dh];by_cases e:w.at_=a;·rw[ax e,e];simp only[ji];rw[List.getElem?_set_self (by omega)];rfl
  ·rw[aF e];simp only[ji];rw[Pf (by omega)]
def ad0{d:aV}(h:cg d=true)(a:Int)(ha:0<=a/\a<=19):cr (e8 d) a=cr d a:=by obtain⟨h0,h1,h2⟩:=fR h;unfold cr e8 mP;exact Sa a ha d.pending 0 d.cells h1 h0
def agp(d:aV):∀k∈(iG d).ai,fu (iG d).ay k.obj=false:=by
 have hI:∀k∈(gK d).1,fu (dH d).1 k.obj=false:=by
  unfold gK k6;refine KP (I:=λg:List Kp×Int=>∀k∈g.1,fu (dH d).1 k.obj=false) (λi g b hg=>?_) _ _ _ (by simp);unfold qB;split
  ·simp only;split;·exact hg
   ·rename_i hn;intro k hk;rcases dy.1 hk with hk|hk;·exact hg k hk
    ·simp at hk;rw[hk];simpa using hn
  ·exact hg
 intro k hk;have h1:k∈fe d:=(vf (fe d)).subset hk;exact hI k (Mp.1 h1)
end M
namespace M
open Go
def aay(n:Nat):∀b∈aL n,48<=b.toNat/\b.toNat<=57:=by intro b hb;have:=dY.1 (Ar n) b hb;simpa [gF] using this
end M
set_option maxHeartbeats 4000000
namespace M
open Go
def agG(n:Int):∀b∈cy n,48<=b.toNat/\b.toNat<=57:=by
 unfold cy;split;·intro b hb;have:=dY.1 (Ar n.toNat) b hb;simpa [gF] using this
 ·simp
def agF{t:Int}(h0:0<=t)(h1:t<=1000000):((bz (cy t)).getD 0:Nat)=t.toNat/\bz (cy t)≠none:=by obtain⟨n,rfl⟩:∃n:Nat,t=n:=⟨t.toNat,by omega⟩;rw[MC n (by omega)];simp
def ama{s:ag}{lo:Nat}(h:bq (iw lo) s=true):∀b∈s,lo<=b.toNat:=by intro b hb;have:=dY.1 h b hb;simp[iw] at this;exact this.1
def afH{k:Int}(h:k=1\/k=2\/k=3):nO (iK k)=k:=by rcases h with rfl|rfl|rfl<;>decide
def YW{b:Bn}(h:dn b=true):(∀x∈b.a,x≠32/\x≠10)/\(b.kind=3\/b.b=[])/\0<=b.t/\b.t<=1000000:=by
 have hk:=Ej h;unfold dn at h;simp only[aB,bp] at h;obtain⟨ht,h⟩:=h;by_cases h3:b.kind=3
 ·rw[aF (by omega),ax h3] at h;simp only[aB,dX] at h;refine⟨λx hx=>?_,Or.inl h3,ht⟩;have:=dY.1 h.1.1 x hx;simp only[qW,bp] at this;constructor;·rintro rfl;revert this;decide
  ·rintro rfl;revert this;decide
 ·rw[ax (by omega)] at h;simp only[aB,bp,ij] at h;refine⟨λx hx=>?_,Or.inr h.2,ht⟩;have:=ama h.1.1.1 x hx;constructor;·rintro rfl;revert this;decide
  ·rintro rfl;revert this;decide
def YT{b:Bn}(h:dn b=true):eO (di b)=(b,true):=by
 obtain⟨ha,hb,ht0,ht1⟩:=YW h;have hk:=Ej h;have hn:=agG b.t
 have hd:∀x∈cy b.t,x≠32/\x≠10:=by
  intro x hx;have:=hn x hx;constructor;·rintro rfl;revert this;decide
  ·rintro rfl;revert this;decide
 have e:di b=([98,97,110]++32::(iK b.kind++32::(cy b.t++32::b.a)))++(if b.kind=3 then 10::b.b else []):=by unfold di;rw[ax h];simp
 have hP:∀x∈([98,97,110]++32::(iK b.kind++32::(cy b.t++32::b.a)):ag),x≠10:=by
  intro x hx;simp only[dy,b9,Jh,or_false] at hx;rcases hx with (rfl|rfl|rfl)|rfl|hx|rfl|hx|rfl|hx;any_goals decide
  ·exact(I1 _ x hx).2
  ·exact(hd x hx).2
  ·exact(ha x hx).2
 have hl:iA (di b)=([98,97,110]++32::(iK b.kind++32::(cy b.t++32::b.a)),b.b):=by
  rw[e];unfold iA;rw[EK _ _ hP];by_cases h3:b.kind=3;·rw[ax h3];simp[cF]
  ·rw[aF h3];have:b.b=[]:=by rcases hb with hb|hb;exact absurd hb h3;exact hb
   simp[cF,this]
 unfold eO;rw[hl];simp only;rw[tH _ _ (by decide),tH _ _ (λx hx=>(I1 _ x hx).1),tH _ _ (λx hx=>(hd x hx).1),Dl 32 b.a (λx hx=>(ha x hx).1)];unfold rH
 have hbb:(⟨nO (iK b.kind),b.a,b.b,((bz (cy b.t)).getD 0:Nat)⟩:Bn)=b:=by
  rw[afH hk,(agF ht0 ht1).1];have:((b.t.toNat:Nat):Int)=b.t:=by omega
  rw[this]
 simp only[hbb,dh]
def wY(n:Nat):∀c∈aL n,c≠32/\c≠10:=by
 intro c hc;have:=aay n c hc;constructor;·rintro rfl;revert this;decide
 ·rintro rfl;revert this;decide
def ahY{m:Nat}{b:ag}(h1:1<=m)(h2:m<=100000)(h3:b.length<=2000):cj (qJ m b)=((m:Int),b,true):=by
 have e:qJ m b=(aL (jC (aL m++32::(aL b.length++10::b)))++32::(aL m++32::aL b.length))++10::b:=by unfold qJ;simp
 have hP:∀c∈aL (jC (aL m++32::(aL b.length++10::b)))++32::(aL m++32::aL b.length),c≠10:=by
  intro c hc;simp only[dy,b9] at hc;rcases hc with hc|rfl|hc|rfl|hc;·exact(wY _ c hc).2
  ·decide
  ·exact(wY _ c hc).2
  ·decide
  ·exact(wY _ c hc).2
 have hc:cF 10 (qJ m b)=some (aL (jC (aL m++32::(aL b.length++10::b)))++32::(aL m++32::aL b.length),b):=by rw[e,EK _ _ hP];simp[cF]
 have hsp:bA 32 (aL (jC (aL m++32::(aL b.length++10::b)))++32::(aL m++32::aL b.length))=[aL (jC (aL m++32::(aL b.length++10::b))),aL m,aL b.length]:=by rw[tH _ _ (λc hc=>(wY _ c hc).1),tH _ _ (λc hc=>(wY _ c hc).1),Dl 32 _ (λc hc=>(wY _ c hc).1)]
 have hn:bz (aL m)=some m:=lU.2 ⟨by omega,rfl⟩;have hr:cM (m:Int) b=qJ m b:=by unfold cM;rw[ax ⟨by omega,by omega,h3⟩];simp
 unfold cj;rw[hc];simp only;rw[hsp];simp only[hn,tO,hr,dh]
end M
set_option maxHeartbeats 8000000
namespace M
open Go
def af1(D:aV):∃m,(dH D).1=(List.range m).map λj=>(eO (cj (cr D ((j:Nat):Int))).2.1).1:=by
 have key:∀(l:List Nat) (i:Nat) (g:List Bn×Int),∃m,(rJ (cT (iF D) i l g)).1=g.1++(List.range m).map λj=>(eO (cj (cr D ((i+j:Nat):Int))).2.1).1:=by
  intro l;induction l with
  |nil=>intro i g;exact⟨0,by simp[cT,rJ]⟩
  |cons x l ih=>
   intro i g;simp only[cT];unfold iF;split
   ·rename_i h;split at h
    ·injection h with h
     obtain⟨m,hm⟩:=ih (i+1) (g.1++[(eO (cj (cr D i)).2.1).1],sR g.2 (cj (cr D i)).1);refine⟨m+1,?_⟩;rw[<-h];unfold iF at hm;rw[hm,zG];simp[q8,oh 1]
    ·cases h
   ·rename_i h;split at h;·cases h
    ·injection h with h
     refine⟨0,?_⟩;rw[<-h];simp[rJ]
 obtain⟨m,hm⟩:=key (List.range 5) 0 ([],0);refine⟨m,?_⟩;unfold dH;rw[hm];simp
def ad1(d:aV)(a:Int)(t:ag):cr (iH d a t) a=t:=by
 unfold iH cr;split;·simp
 ·simp[List.foldl_append]
def SU{bs:List Bn}{b:Bn}{o:Ob}(h:fu bs o=false)(hb:b∈bs):iT b o=false:=by unfold fu at h;rw[Jq] at h;simpa using h b hb
def JQ{t:Sh}{b:Bn}(ht:cG t=true)(hb:lC t b=true):(∀k∈(gT t b).ai,iT b k.obj=false)/\∀k∈(iG (eZ (gT t b).aD [])).ai,iT b k.obj=true->(iG (eZ (gT t b).aD [])).ay.length<=t.ay.length:=by
 have P:=jA ht;unfold gT;rw[ax hb];unfold lC at hb;simp only[aB,rq,DR] at hb;obtain⟨⟨h1,h2⟩,h3⟩:=hb;refine⟨λk hk=>?_,λk hk hh=>?_⟩;·have:=(List.mem_filter.1 hk).2;exact SU (bs:=t.ay++[b]) (by simpa using this) (by simp)
 ·have ec:eZ (ue t b).aD []=jY t b:=rfl;rw[ec] at hk⊢;rcases fV t.ay.length (iG (jY t b)).ay.length with hlt|hge
  ·exfalso;have hq:cg (iH t.aD t.ay.length (cM t.seq (di b)))=true:=Cl _ P.d (by omega);have hg:cr (jY t b) (t.ay.length:Int)=cM t.seq (di b):=by unfold jY;rw[ad0 hq _ (by omega),ad1]
   have hw:=PX h1;have hbl:=YU b
   have hr:cj (cM t.seq (di b))=(t.seq,di b,true):=by
    have hs:=P.q;unfold cM;rw[ax ⟨hs.1,hs.2,by omega⟩,ahY (by omega) (by omega) (by omega)];have:((t.seq.toNat:Nat):Int)=t.seq:=by omega
    rw[this]
   obtain⟨m,hm⟩:=af1 (jY t b);have hm':(iG (jY t b)).ay=(List.range m).map λj=>(eO (cj (cr (jY t b) ((j:Nat):Int))).2.1).1:=hm;have hmem:b∈(iG (jY t b)).ay:=by rw[hm'] at hlt⊢;simp only[cV,tU] at hlt;refine bw.2 ⟨t.ay.length,q6.2 hlt,?_⟩;rw[hg,hr,YT h1]
   have:=SU (agp (jY t b) k hk) hmem;rw[this] at hh;cases hh
  ·exact hge
def afD{s:Sh}{o:Ob}(h:nM s o=true):∃l,(kA s o).ai=l++[⟨o,s.next,s.seq⟩]:=by unfold kA;rw[ax h];exact⟨_,rfl⟩
def afE{s:Sh}{o:Ob}(h:nM s o=false):kA s o=s:=by unfold kA;rw[h];rfl
def ame(code:List UInt8)(hl:code.length<=1048576):∃(s:Sh) (R:List (List X)) (o:Ob),wK R s.ai/\aZ s<=760000/\bG o<=20000/\∃ps,ev LI TT 5 [.row .sl 1 (code.map eU)]=some (.av [.agg [.row .own 1 (s.aD.cells.map eS),.row .own 2 (s.aD.pending.map eW),.row .own 9 R,.row .own 4 (s.ay.map aY),.int .i64 s.next,.int .i64 s.seq],.agg (aW .own o)],ps):=by
 obtain⟨c,hc⟩:=V5 code hl;obtain⟨c1,s,R,hR,hs,u1⟩:=V4 c;obtain⟨c2,o,ho,ht,u2⟩:=amf c1;try simp at u2
 have hcl:=hR.cl;refine⟨s,R,o,hR,hs,ho,?_⟩;rw[au (b:=G8) (rs:=_) (n:=1) rfl rfl];simp -implicitDefEqProofs [G8,Ni,hc,u1,u2,hcl]
def amd(code:List UInt8)(hl:code.length<=1048576):∃(s:Sh) (R:List (List X)) (b:Bn),wK R s.ai/\aZ s<=760000/\aO b<=200/\∃ps,ev LI TT 12 [.row .sl 1 (code.map eU)]=some (.av [.agg [.row .own 1 (s.aD.cells.map eS),.row .own 2 (s.aD.pending.map eW),.row .own 9 R,.row .own 4 (s.ay.map aY),.int .i64 s.next,.int .i64 s.seq],.agg (aY b)],ps):=by
 obtain⟨c,hc⟩:=V5 code hl;obtain⟨c1,s,R,hR,hs,u1⟩:=V4 c;obtain⟨c2,b,hb,u2⟩:=V2 c1;try simp at u2
 have hcl:=hR.cl;refine⟨s,R,b,hR,hs,hb,?_⟩;rw[au (b:=G7) (rs:=_) (n:=1) rfl rfl];simp -implicitDefEqProofs [G7,Nh,hc,u1,u2,hcl]
def JA(s:Sh)(R:List (List X))(b:Bn)(M':Sh)(x3 x4 x5 x6 zz:X)(o3:∀ks,X.only ks x3=x3)(o4:∀ks,X.only ks x4=x4)(o5:∀ks,X.only ks x5=x5)(o6:∀ks,X.only ks x6=x6)(MD:∀ks,X.only ks zz=zz)(hs:aZ s<=760000)(hb:aO b<=200)(hM:aZ M'<=1048576)(hh:∀k∈M'.ai,iT b k.obj=true->M'.ay.length<=s.ay.length):aI (ak (ev LI TT) (aq TT) xT) [(3,x3),(4,x4),(5,x5),(6,x6),(9,.ptr .own [.row .own 1 (s.aD.cells.map eS),.row .own 2 (s.aD.pending.map eW),.row .own 9 R,.row .own 4 (s.ay.map aY),.int .i64 s.next,.int .i64 s.seq]),(10,.ptr .own (aY b)),(11,zz),(15,.ptr .own (aG .own M')),(16,.int .i64 0)]=some (.exit 0,[(3,x3),(4,x4),(5,x5),(6,x6),(9,.ptr .own [.row .own 1 (s.aD.cells.map eS),.row .own 2 (s.aD.pending.map eW),.row .own 9 R,.row .own 4 (s.ay.map aY),.int .i64 s.next,.int .i64 s.seq]),(10,.ptr .own (aY b)),(11,zz),(15,.ptr .own (aG .own M')),(16,.int .i64 M'.ai.length),(92,.bool false)]):=by
 have hl:=bh (w:=aX) M'.ai;have hw0:aZ M'=bC M'.aD+wL aX M'.ai+wL aO M'.ay:=rfl
 obtain⟨i,h1,e⟩:=qx (xt:=0) (f:=ak (ev LI TT) (aq TT) xT)
  (λ(i:Nat)=>[(3,x3),(4,x4),(5,x5),(6,x6),(9,.ptr .own [.row .own 1 (s.aD.cells.map eS),.row .own 2 (s.aD.pending.map eW),.row .own 9 R,.row .own 4 (s.ay.map aY),.int .i64 s.next,.int .i64 s.seq]),(10,.ptr .own (aY b)),(11,zz),(15,.ptr .own (aG .own M')),(16,.int .i64 i)]) (λi=>M'.ai.length - i) (λi=>i<=M'.ai.length)
  (λ(_:Nat)=>[(3,x3),(4,x4),(5,x5),(6,x6),(9,.ptr .own [.row .own 1 (s.aD.cells.map eS),.row .own 2 (s.aD.pending.map eW),.row .own 9 R,.row .own 4 (s.ay.map aY),.int .i64 s.next,.int .i64 s.seq]),(10,.ptr .own (aY b)),(11,zz),(15,.ptr .own (aG .own M')),(16,.int .i64 M'.ai.length),(92,.bool false)])
  (λi hi=>by
   by_cases h:i<M'.ai.length
   ·right;have hw:=aU i (by omega);have hk:=VV (w:=aX) h;have u:=JY b (M'.ai[i]).obj (by omega) (by show aX _<=_;omega);have hc:=hh _ (cq h);refine⟨i+1,h,by omega,?_⟩;cases hx:iT b (M'.ai[i]).obj<;>rw[hx] at u
    ·try simp at u
     simp -implicitDefEqProofs [xT,Gt,o3,o4,o5,o6,MD,h,hw,u]
    ·have hc2:=hc hx;have hc3:¬s.ay.length<M'.ay.length:=by omega
     try simp at u
     simp -implicitDefEqProofs [xT,Gt,o3,o4,o5,o6,MD,h,hw,u,hc3]
   ·left;have:i=M'.ai.length:=by omega
    subst this;refine⟨M'.ai.length,ek _,?_⟩;simp -implicitDefEqProofs [xT,Gt,o3,o4,o5,o6,MD])
  0 (oq _)
 simpa using e
def JB(b:Bn)(U:Sh)(x3 x4 x5 x6:X)(o3:∀ks,X.only ks x3=x3)(o4:∀ks,X.only ks x4=x4)(o5:∀ks,X.only ks x5=x5)(o6:∀ks,X.only ks x6=x6)(hb:aO b<=200)(hU:aZ U<=1048576)(hh:∀k∈U.ai,iT b k.obj=false):aI (ak (ev LI TT) (aq TT) BS) [(3,x3),(4,x4),(5,x5),(6,x6),(10,.ptr .own (aY b)),(11,.ptr .own (aG .own U)),(17,.int .i64 0)]=some (.exit 2,[(3,x3),(4,x4),(5,x5),(6,x6),(10,.ptr .own (aY b)),(11,.ptr .own (aG .own U)),(17,.int .i64 U.ai.length),(116,.bool false)]):=by
 have hl:=bh (w:=aX) U.ai;have hw0:aZ U=bC U.aD+wL aX U.ai+wL aO U.ay:=rfl
 obtain⟨i,h1,e⟩:=qx (xt:=2) (f:=ak (ev LI TT) (aq TT) BS)
  (λ(i:Nat)=>[(3,x3),(4,x4),(5,x5),(6,x6),(10,.ptr .own (aY b)),(11,.ptr .own (aG .own U)),(17,.int .i64 i)]) (λi=>U.ai.length - i) (λi=>i<=U.ai.length)
  (λ(_:Nat)=>[(3,x3),(4,x4),(5,x5),(6,x6),(10,.ptr .own (aY b)),(11,.ptr .own (aG .own U)),(17,.int .i64 U.ai.length),(116,.bool false)])
  (λi hi=>by
   by_cases h:i<U.ai.length
   ·right;have hw:=aU i (by omega);have hk:=VV (w:=aX) h;have u:=JY b (U.ai[i]).obj (by omega) (by show aX _<=_;omega);rw[hh _ (cq h)] at u;try simp at u
    refine⟨i+1,h,by omega,?_⟩;simp -implicitDefEqProofs [BS,Mg,o3,o4,o5,o6,h,hw,u]
   ·left;have:i=U.ai.length:=by omega
    subst this;refine⟨U.ai.length,ek _,?_⟩;simp -implicitDefEqProofs [BS,Mg,o3,o4,o5,o6])
  0 (oq _)
 simpa using e
def TW(l:List Kp)(f:Kp->List X)(a:List X)(g:List X->List X):(l.map f++[a]).modify l.length g=l.map f++[g a]:=by
 apply gy;intro j;rw[tR];by_cases e:l.length=j;·subst e;simp
 ·rcases fV j l.length with h|h;·rw[kK (by simpa using h),kK (by simpa using h)];simp[e]
  ·rw[jG (by simp;omega),jG (by simp;omega)];rfl
def apd(code:List UInt8)(k:code.length<=9223372036854775807/\∀b∈code,True):∃ps,ev LI TT 3 [.row .sl 1 (code.map eU)]=some (.bool true,ps):=by
 rw[au (b:=oM) (rs:=[.t 2]) (n:=1) rfl rfl];have h1:=ZD code;by_cases hbig:1048576<code.length;·simp -implicitDefEqProofs [oM,h1,hbig]
 obtain⟨s,R,o,hR,hs,ho,ps1,u1⟩:=ame code (by omega);obtain⟨t,R2,b,K3,ht,hb,ps2,u2⟩:=amd code (by omega);have gG:=hR.md;have hcl:=hR.cl;have xx:=hR.len;have xy:=K3.md;have xp:=K3.cl;clear hR K3;have u3:=Zg s o (by omega) (by omega);have u4:=Qv s o (by omega) (by omega);have v1:=rK s (by omega);have v2:=Eu s (by omega);have w3:=Zb t b (by omega) (by omega);have w4:=Qp t b (by omega) (by omega);have v4:=J1 o (by omega);generalize dD o=ot at v4;try simp at v4
 cases hs1:cG s
 ·rw[hs1] at u3 u4 v1 v2;have u5:=J3 gN (by decide);have u6:=Ka gN (by decide);generalize vZ gN=T at u5 u6;simp[gN] at u3 u4 u5 u6;try simp at v1
  try simp at v2
  cases hf:(cG t && lC t b)
  ·rw[hf] at w3 w4;generalize (if cG t=true then gT t b else gN)=U at w3 w4;try simp at w3
   try simp at w4
   simp -implicitDefEqProofs [oM,h1,hbig,u1,u2,u3,u4,u5,u6,v1,v2,w3,w4,gG,hcl,xy,xp,xx,gN]
  ·rw[hf] at w3 w4;simp only[aB] at hf;obtain⟨f1,f2⟩:=hf;rw[ax f1] at w3 w4;obtain⟨l1,l2⟩:=JQ f1 f2;have hU:=Ek (b:=b) f1;have AM:=El t b;generalize gT t b=U at w3 w4 l1 l2 hU AM;have su:=(jA hU).d;have w5:=rK U (by omega);rw[hU] at w5;have w6:=JW U.aD [] su (by simp);have c1:=EI [] su;have c2:=EJ U.aD [];have SE:aZ U=bC U.aD+wL aX U.ai+wL aO U.ay:=rfl;have w7:=J0 (eZ U.aD []) (by omega);unfold sS at w7;rw[ax c1] at w7;have c3:=GD (eZ U.aD []);generalize iG (eZ U.aD [])=M' at w7 l2 c3;generalize eZ U.aD []=D at w6 w7 c2 c3;have w8:=JA t R2 b M' (.ptr .own [.row .own 1 (s.aD.cells.map eS),.row .own 2 (s.aD.pending.map eW),.row .own 9 R,.row .own 4 (s.ay.map aY),.int .i64 s.next,.int .i64 s.seq]) (.ptr .own (aW .own o)) (.ptr .own (aG .own gN)) (.bool false) (.ptr .own (aG .own U)) (λ_=>by simp) (λ_=>by simp) (λ_=>by simp) (λ_=>by simp) (λ_=>by simp) ht hb (by omega) l2;have w9:=JB b U (.ptr .own [.row .own 1 (s.aD.cells.map eS),.row .own 2 (s.aD.pending.map eW),.row .own 9 R,.row .own 4 (s.ay.map aY),.int .i64 s.next,.int .i64 s.seq]) (.ptr .own (aW .own o)) (.ptr .own (aG .own gN)) (.bool false) (λ_=>by simp) (λ_=>by simp) (λ_=>by simp) (λ_=>by simp) hb (by omega) l1;try simp at w3
   try simp at w4
   try simp at w5
   try simp at w6
   try simp at w7
   try simp[gN] at w8
   try simp[gN] at w9
   simp -implicitDefEqProofs [oM,h1,hbig,u1,u2,u3,u4,u5,u6,v1,v2,w3,w4,w5,w6,w7,w8,w9,gG,hcl,xy,xp,xx,gN]
 rw[hs1] at u3 u4 v1 v2;rw[ax rfl] at u3 u4;cases hk1:nM s o
 ·rw[hk1,afE hk1] at u3 u4;have u5:=J3 s (by omega);have u6:=Ka s (by omega);generalize vZ s=T at u5 u6;try simp at u3
  try simp at u4
  try simp at u5
  try simp at u6
  try simp at v1
  try simp at v2
  cases hf:(cG t && lC t b)
  ·rw[hf] at w3 w4;generalize (if cG t=true then gT t b else gN)=U at w3 w4;try simp at w3
   try simp at w4
   simp -implicitDefEqProofs [oM,h1,hbig,u1,u2,u3,u4,u5,u6,v1,v2,w3,w4,gG,hcl,xy,xp,xx]
  ·rw[hf] at w3 w4;simp only[aB] at hf;obtain⟨f1,f2⟩:=hf;rw[ax f1] at w3 w4;obtain⟨l1,l2⟩:=JQ f1 f2;have hU:=Ek (b:=b) f1;have AM:=El t b;generalize gT t b=U at w3 w4 l1 l2 hU AM;have su:=(jA hU).d;have w5:=rK U (by omega);rw[hU] at w5;have w6:=JW U.aD [] su (by simp);have c1:=EI [] su;have c2:=EJ U.aD [];have SE:aZ U=bC U.aD+wL aX U.ai+wL aO U.ay:=rfl;have w7:=J0 (eZ U.aD []) (by omega);unfold sS at w7;rw[ax c1] at w7;have c3:=GD (eZ U.aD []);generalize iG (eZ U.aD [])=M' at w7 l2 c3;generalize eZ U.aD []=D at w6 w7 c2 c3;have w8:=JA t R2 b M' (.ptr .own [.row .own 1 (s.aD.cells.map eS),.row .own 2 (s.aD.pending.map eW),.row .own 9 R,.row .own 4 (s.ay.map aY),.int .i64 s.next,.int .i64 s.seq]) (.ptr .own (aW .own o)) (.ptr .own (aG .own s)) (.bool false) (.ptr .own (aG .own U)) (λ_=>by simp) (λ_=>by simp) (λ_=>by simp) (λ_=>by simp) (λ_=>by simp) ht hb (by omega) l2;have w9:=JB b U (.ptr .own [.row .own 1 (s.aD.cells.map eS),.row .own 2 (s.aD.pending.map eW),.row .own 9 R,.row .own 4 (s.ay.map aY),.int .i64 s.next,.int .i64 s.seq]) (.ptr .own (aW .own o)) (.ptr .own (aG .own s)) (.bool false) (λ_=>by simp) (λ_=>by simp) (λ_=>by simp) (λ_=>by simp) hb (by omega) l1;try simp at w3
   try simp at w4
   try simp at w5
   try simp at w6
   try simp at w7
   try simp at w8
   try simp at w9
   simp -implicitDefEqProofs [oM,h1,hbig,u1,u2,u3,u4,u5,u6,v1,v2,w3,w4,w5,w6,w7,w8,w9,gG,hcl,xy,xp,xx]
 ·rw[hk1] at u3 u4;obtain⟨l,hl⟩:=afD hk1;have hK:=Tq (o:=o) hs1;have Fk:=Ts s o;generalize kA s o=K at u3 u4 hl hK Fk;obtain⟨kd,ko,kb,kn,kq⟩:=K;simp only at hl;subst hl;have u5:=J3 _ (by have:=Fk;omega:aZ ⟨kd,l++[⟨o,s.next,s.seq⟩],kb,kn,kq⟩<=1048576);have u6:=Ka _ (by have:=Fk;omega:aZ ⟨kd,l++[⟨o,s.next,s.seq⟩],kb,kn,kq⟩<=1048576);have v3:=rK _ (by have:=Fk;omega:aZ ⟨kd,l++[⟨o,s.next,s.seq⟩],kb,kn,kq⟩<=1073741824);rw[hK] at v3;have nE:l.length<=1000000:=by have h5:=bh (w:=aX) (l++[⟨o,s.next,s.seq⟩]);have hK0:aZ ⟨kd,l++[⟨o,s.next,s.seq⟩],kb,kn,kq⟩=bC kd+wL aX (l++[⟨o,s.next,s.seq⟩])+wL aO kb:=rfl;rw[eu] at h5;omega
  have S6:IntKind.i64.wrap (l.length:Int)=l.length:=bO (by omega) (by omega);generalize vZ ⟨kd,l++[⟨o,s.next,s.seq⟩],kb,kn,kq⟩=T at u5 u6;try simp at u3
  try simp at u4
  try simp at u5
  try simp at u6
  try simp at v1
  try simp at v2
  try simp at v3
  cases hf:(cG t && lC t b)
  ·rw[hf] at w3 w4;generalize (if cG t=true then gT t b else gN)=U at w3 w4;try simp at w3
   try simp at w4
   simp -implicitDefEqProofs [oM,h1,hbig,u1,u2,u3,u4,u5,u6,v1,v2,w3,w4,gG,hcl,xy,xp,xx,v3,v4,S6,TW,GA,X.bT,X.dJ,X.md,ghost,r9,kN,uD,oV,X.pfx,kE]
  ·rw[hf] at w3 w4;simp only[aB] at hf;obtain⟨f1,f2⟩:=hf;rw[ax f1] at w3 w4;obtain⟨l1,l2⟩:=JQ f1 f2;have hU:=Ek (b:=b) f1;have AM:=El t b;generalize gT t b=U at w3 w4 l1 l2 hU AM;have su:=(jA hU).d;have w5:=rK U (by omega);rw[hU] at w5;have w6:=JW U.aD [] su (by simp);have c1:=EI [] su;have c2:=EJ U.aD [];have SE:aZ U=bC U.aD+wL aX U.ai+wL aO U.ay:=rfl;have w7:=J0 (eZ U.aD []) (by omega);unfold sS at w7;rw[ax c1] at w7;have c3:=GD (eZ U.aD []);generalize iG (eZ U.aD [])=M' at w7 l2 c3;generalize eZ U.aD []=D at w6 w7 c2 c3;have w8:=JA t R2 b M' (.ptr .own [.row .own 1 (s.aD.cells.map eS),.row .own 2 (s.aD.pending.map eW),.row .own 9 R,.row .own 4 (s.ay.map aY),.int .i64 s.next,.int .i64 s.seq]) (.ptr .own (aW .own o)) (.ptr .own (aG .own (⟨kd,l++[⟨o,s.next,s.seq⟩],kb,kn,kq⟩:Sh))) (.bool true) (.ptr .own (aG .own U)) (λ_=>by simp) (λ_=>by simp) (λ_=>by simp) (λ_=>by simp) (λ_=>by simp) ht hb (by omega) l2;have w9:=JB b U (.ptr .own [.row .own 1 (s.aD.cells.map eS),.row .own 2 (s.aD.pending.map eW),.row .own 9 R,.row .own 4 (s.ay.map aY),.int .i64 s.next,.int .i64 s.seq]) (.ptr .own (aW .own o)) (.ptr .own (aG .own (⟨kd,l++[⟨o,s.next,s.seq⟩],kb,kn,kq⟩:Sh))) (.bool true) (λ_=>by simp) (λ_=>by simp) (λ_=>by simp) (λ_=>by simp) hb (by omega) l1;try simp at w3
   try simp at w4
   try simp at w5
   try simp at w6
   try simp at w7
   try simp at w8
   try simp at w9
   simp -implicitDefEqProofs [oM,h1,hbig,u1,u2,u3,u4,u5,u6,v1,v2,w3,w4,w5,w6,w7,w8,w9,gG,hcl,xy,xp,xx,v3,v4,S6,TW,GA,X.bT,X.dJ,X.md,ghost,r9,kN,uD,oV,X.pfx,kE]
end M
