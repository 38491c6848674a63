/- What the functions come to in the machine; no conditions. -/
import Derived.Test.YtaaeoialiegmeaaGreatDoorCona
import Derived.Test.YtaaeoialiegmeaaGreatDoorMc
set_option linter.defProp false
set_option linter.unusedSectionVars false
set_option linter.unusedVariables false
set_option linter.unusedSimpArgs false
set_option maxHeartbeats 4000000
namespace M
open Go
variable [Lb]
def mh(fs:List aE)(t now:Int):Bool:=decide (tM fs t now<(fS fs).rA) && !(fS fs).nc
def XH(fs:List aE)(hb:wL aF fs<=1073741824):ev LI TT 187 [.row .af 2 (fs.map aH)]=some (.int .i64 ((fS fs).rA),[.dead]):=by
 rw[aq (b:=GD) (rs:=[.t 2]) (n:=1) rfl rfl];have u1:=zR fs hb;try simp at u1
 simp -implicitDefEqProofs [GD,u1];all_goals (repeat' split)<;>first|rfl|omega|(simp_all;done)|(simp_all;omega)|skip
def Xa(fs:List aE)(hb:wL aF fs<=1073741824):ev LI TT 113 [.row .af 2 (fs.map aH)]=some (.int .i64 ((fS fs).rA),[.dead]):=by
 rw[aq (b:=Fu) (rs:=[.t 2]) (n:=1) rfl rfl];have u1:=zP fs hb;try simp at u1
 simp -implicitDefEqProofs [Fu,u1];all_goals (repeat' split)<;>first|rfl|omega|(simp_all;done)|(simp_all;omega)|skip
def XE(fs:List aE)(t:Int)(now:Int)(hb:wL aF fs<=100000000)(h3:bI t)(h4:bI now):ev LI TT 112 [.row .af 2 (fs.map aH),.int .i64 t,.int .i64 now]=some (.bool (mh fs t now),[.dead,.dead,.dead]):=by
 rw[aq (b:=GA) (rs:=[.t 6]) (n:=3) rfl rfl];have hfl:=bp (w:=aF) fs;unfold mh;have u1:=Xv fs t now (by omega) h3 h4;try simp at u1
 have u2:=XH fs (by omega);try simp at u2
 have u3:=zR fs (by omega);try simp at u3
 by_cases g:tM fs t now<(fS fs).rA;all_goals
 simp -implicitDefEqProofs [GA,u1,u2,u3,g];all_goals (repeat' split)<;>first|rfl|omega|(simp_all;done)|(simp_all;omega)|skip
def OL(fs:List aE)(t:Int)(now:Int)(hb:wL aF fs<=100000000)(h3:bI t)(h4:bI now):ev LI TT 37 [.row .af 2 (fs.map aH),.int .i64 t,.int .i64 now]=some (.bool (mh fs t now),[.dead,.dead,.dead]):=by
 rw[aq (b:=Fs) (rs:=[.t 6]) (n:=3) rfl rfl];have hfl:=bp (w:=aF) fs;unfold mh;have u1:=WY fs t now (by omega) h3 h4;try simp at u1
 have u2:=Xa fs (by omega);try simp at u2
 have u3:=zP fs (by omega);try simp at u3
 by_cases g:tM fs t now<(fS fs).rA;all_goals
 simp -implicitDefEqProofs [Fs,u1,u2,u3,g];all_goals (repeat' split)<;>first|rfl|omega|(simp_all;done)|(simp_all;omega)|skip
end M
set_option maxHeartbeats 4000000
namespace M
open Go
variable [Lb]
end M
set_option maxHeartbeats 4000000
namespace M
open Go
variable [Lb]
def pW(d:bD)(keep:List Bool):bD:=⟨qu (kS keep false) d.cells d.pending,[]⟩
def Ys{d:bD}(keep:List Bool)(h:cS d=true):cS (pW d keep)=true:=by obtain⟨h0,h1,h1'⟩:=ju h;have:=RY (kS keep false) d.cells d.pending;unfold cS pW;simp only[this,h1];rfl
def Xz(d:bD)(keep:List Bool)(h:cS d=true)(hk:keep.length<=9223372036854775807):ev LI TT 193 [.agg (cV .af d),.row .af 1 (keep.map eB)]=some (.agg (cV .own (pW d keep)),[.dead,.dead]):=by
 rw[aq (b:=Gr) (rs:=[.c 4 2 true 50]) (n:=2) rfl rfl];obtain⟨h0,h1,h1'⟩:=ju h;unfold pW;have u1:=tS d (by omega);try simp at u1
 have u2:=O8 d keep false h hk;try simp at u2
 rw[h] at u1;simp -implicitDefEqProofs [Gr,u1,u2];all_goals (repeat' split)<;>first|rfl|omega|(simp_all;done)|(simp_all;omega)|skip
def Yt(d:bD)(keep:List Bool):bW (pW d keep)<=bW d:=by have h:=J1 (kS keep false) d.pending 0 d.cells;show wL wS (qu (kS keep false) d.cells d.pending)+wL dz []<=wL wS d.cells+wL dz d.pending;have e:wL dz []=0:=rfl;unfold qu;omega
end M
set_option maxHeartbeats 4000000
namespace M
open Go
variable [Lb]
class Fd extends Lb where
 f:∀(s:Sh) (q:Rq),bw s<=1073741824->dh q<=1073741824->L 96 [.ptr .af (aO .af s),.agg (dw .af q)]=some (wC pg gG s q,[.dead,.dead])
def Qn{s:Sh}{q:Rq}{o:Ob}(h:di s q=some o):dI s=true/\∃k∈s.ai,k.obj=o/\ue s q k=true:=by
 unfold di at h;split at h;·rename_i hok;unfold wB at h;obtain⟨k,hk,rfl⟩:=mR.1 h;exact⟨hok,k,by have:=UA hk;simpa using this,rfl,List.find?_some hk⟩
 ·cases h
def JW{s:Sh}{q:Rq}:bI ((di s q).getD bY).t/\bP ((di s q).getD bY)<=bw s:=by
 cases h:di s q with
 |none=>exact⟨by unfold bI;simp[bY],by simp[bY,bP,bQ,wL]⟩
 |some o=>
  obtain⟨h1,k,h2,rfl,_⟩:=Qn h;have h3:=TG h1 h2;have h4:=tq h2;unfold dx at h3;simp only[av,aZ] at h3;have h5:bw s=bW s.aI+wL bO s.ai+wL aW s.aG:=rfl;refine⟨?_,?_⟩;·unfold bI;simp only[q8];have:=h3.1.1.1.1.2;omega
  ·simp only[q8];omega
end M
set_option maxHeartbeats 4000000
namespace M
open Go
variable [Fd]
def Xh(s:Sh)(q:Rq)(hs:bw s<=1073741824)(hq:dh q<=1073741824):ev LI TT 96 [.ptr .af (aO .af s),.agg (dw .af q)]=some (.aj [.agg (aV .own ((wB s q).getD bY)),.bool (wB s q).isSome],[.dead,.dead]):=by rw[ox rfl];exact Fd.f s q hs hq
def W8(s:Sh)(q:Rq)(hs:bw s<=100000000)(hq:dh q<=100000000):ev LI TT 25 [.agg (aO .af s),.agg (dw .af q)]=some (.aj [.agg (aV .own ((di s q).getD bY)),.bool ((di s q).isSome)],[.dead,.dead]):=by
 rw[aq (b:=Bd) (rs:=[.c 4 7 true 31,.t 5]) (n:=2) rfl rfl];have u1:=Xg s (by omega);try simp at u1
 have u2:=Xh s q (by omega) (by omega);try simp at u2
 unfold di;cases hok:dI s
 ·rw[hok] at u1;try simp at u1
  simp -implicitDefEqProofs [Bd,u1,bY]
 rw[hok] at u1;try simp at u1
 cases hf:wB s q<;>rw[hf] at u2<;>simp[bY] at u2;all_goals
 simp -implicitDefEqProofs [Bd,u1,u2,bY];all_goals (repeat' split)<;>first|rfl|omega|(simp_all;done)|(simp_all;omega)|skip
end M
set_option maxHeartbeats 4000000
namespace M
open Go
variable [Fd]
def ng(q:Rq)(o:Ob)(found:Bool)(now:Int):Int:=if kE q=true then (if found=true then (if (mh o.resp.fields o.t now && !(fS q.fields).nc)=true then 2 else 3) else 4) else 1
def ou(s:Sh)(q:Rq)(now:Int):Int:=ng q ((di s q).getD bY) (di s q).isSome now
def iB(s:Sh)(q:Rq)(now:Int):Ob:=if kE q=true then (di s q).getD bY else bY
def Yx(q:Rq)(o:Ob)(f:Bool)(now:Int):(ng q o f now=1/\kE q=false)\/(ng q o f now=4/\kE q=true/\f=false)\/((ng q o f now=2\/ng q o f now=3)/\kE q=true/\f=true):=by unfold ng;cases kE q<;>cases f<;>simp
def Xo(q:Rq)(o:Ob)(f:Bool)(now:Int)(hq:dh q<=100000000)(ho:bP o<=100000000)(h3:bI o.t)(h4:bI now):ev LI TT 111 [.agg (dw .af q),.agg (aV .af o),.bool f,.int .i64 now]=some (.int .i64 (ng q o f now),[.dead,.dead,.dead,.dead]):=by
 rw[aq (b:=uz) (rs:=[.t 8]) (n:=4) rfl rfl];have hw:bP o=o.path.length+wL wS o.names+wL wS o.values+bQ o.resp:=rfl;have fk:bQ o.resp=wL aF o.resp.fields+o.resp.body.length:=rfl;have wU:dh q=q.path.length+wL aF q.fields+q.body.length:=rfl;unfold ng;have u1:=Xq q (by omega);try simp at u1
 have u2:=OL o.resp.fields o.t now (by omega) h3 h4;try simp at u2
 have u3:=zP q.fields (by omega);try simp at u3
 generalize kE q=b1 at u1;generalize mh o.resp.fields o.t now=b2 at u2;generalize fS q.fields=cc at u3;obtain⟨c1,c2,c3,c4,c5,c6⟩:=cc;try simp only at u3
 cases b1;·simp -implicitDefEqProofs [uz,u1]
 cases f;·simp -implicitDefEqProofs [uz,u1]
 cases b2;·simp -implicitDefEqProofs [uz,u1,u2,u3]
 cases c2;all_goals
 simp -implicitDefEqProofs [uz,u1,u2,u3];all_goals (repeat' split)<;>first|rfl|omega|(simp_all;done)|(simp_all;omega)|skip
def XA(s:Sh)(q:Rq)(now:Int)(hs:bw s<=100000000)(hq:dh q<=100000000)(h4:bI now):ev LI TT 35 [.agg (aO .af s),.agg (dw .af q),.int .i64 now]=some (.aj [.int .i64 (ou s q now),.agg (aV .own (iB s q now))],[.dead,.dead,.dead]):=by
 rw[aq (b:=qL) (rs:=[.t 6,.c 7 7 true 31]) (n:=3) rfl rfl];have wU:dh q=q.path.length+wL aF q.fields+q.body.length:=rfl;obtain⟨KJ,how⟩:=JW (s:=s) (q:=q);have hw:bP ((di s q).getD bY)=((di s q).getD bY).path.length+wL wS ((di s q).getD bY).names+wL wS ((di s q).getD bY).values+bQ ((di s q).getD bY).resp:=rfl;have fk:bQ ((di s q).getD bY).resp=wL aF ((di s q).getD bY).resp.fields+((di s q).getD bY).resp.body.length:=rfl;unfold ou iB ng kE;have u1:=O3 q (by omega);try simp at u1
 have u2:=zR q.fields (by omega);try simp at u2
 have u3:=XD s q hs hq;try simp at u3
 have u4:=XE ((di s q).getD bY).resp.fields ((di s q).getD bY).t now (by omega) KJ h4;try simp at u4
 generalize oR q=b1 at u1;have hnone:(di s q).isSome=false->(di s q).getD bY=bY:=λh=>by cases hq:di s q with|none=>rfl|some o=>rw[hq] at h;cases h
 generalize (di s q).isSome=bf at u3 hnone;generalize (di s q).getD bY=o at u3 u4 hnone;generalize mh o.resp.fields o.t now=b2 at u4;generalize fS q.fields=cc at u2;obtain⟨c1,c2,c3,c4,c5,c6⟩:=cc;try simp only at u2
 cases b1;·simp -implicitDefEqProofs [qL,u1,bY]
 by_cases g1:q.method=1;rotate_left;·simp -implicitDefEqProofs [qL,u1,g1,bY]
 rw[g1] at u1 u3;cases c1;rotate_left;·simp -implicitDefEqProofs [qL,u1,u2,g1,bY]
 cases bf
 ·rw[hnone rfl] at u3⊢;try simp[bY] at u3
  simp -implicitDefEqProofs [qL,u1,u2,u3,g1,bY]
 cases b2;·simp -implicitDefEqProofs [qL,u1,u2,u3,u4,g1,bY]
 cases c2;all_goals
 simp -implicitDefEqProofs [qL,u1,u2,u3,u4,g1,bY];all_goals (repeat' split)<;>first|rfl|omega|(simp_all;done)|(simp_all;omega)|skip
def W5(s:Sh)(q:Rq)(now:Int)(hs:bw s<=100000000)(hq:dh q<=100000000)(h4:bI now):ev LI TT 34 [.agg (aO .af s),.agg (dw .af q),.int .i64 now]=some (.aj [.int .i64 (ou s q now),.agg (aV .own (iB s q now))],[.dead,.dead,.dead]):=by
 rw[aq (b:=wW) (rs:=[.t 6,.c 7 7 true 31]) (n:=3) rfl rfl];obtain⟨KJ,how⟩:=JW (s:=s) (q:=q);have hcs:=Yx q ((di s q).getD bY) (di s q).isSome now;unfold ou iB;have u1:=W8 s q hs hq;try simp at u1
 have u2:=Xo q ((di s q).getD bY) (di s q).isSome now hq (by omega) KJ h4;try simp at u2
 generalize ng q ((di s q).getD bY) (di s q).isSome now=dc at u2 hcs;have hnone:(di s q).isSome=false->(di s q).getD bY=bY:=λh=>by cases hq:di s q with|none=>rfl|some o=>rw[hq] at h;cases h
 generalize (di s q).isSome=bf at u1 u2 hcs hnone;generalize (di s q).getD bY=o at u1 u2 hnone;rcases hcs with ⟨rfl,ha⟩|⟨rfl,ha,rfl⟩|⟨rfl|rfl,ha,rfl⟩;·simp -implicitDefEqProofs [wW,u1,u2,ha,bY]
 ·rw[hnone rfl] at u1 u2⊢;try simp[bY] at u1
  try simp[bY] at u2
  simp -implicitDefEqProofs [wW,u1,u2,ha,bY]
 all_goals
 simp -implicitDefEqProofs [wW,u1,u2,ha,bY];all_goals (repeat' split)<;>first|rfl|omega|(simp_all;done)|(simp_all;omega)|skip
end M
set_option maxHeartbeats 4000000
namespace M
open Go
variable [Lb]
def VM(s:Sh)(hb:bw s<=1073741824):aJ (ak (ev LI TT) (au TT) CP) [(1,.ptr .own (aO .af s)),(2,.ptr .own [.row .own 1 [],.row .own 2 [],.row .own 9 [],.row .own 4 [],.int .i64 0,.int .i64 0]),(3,.ptr .own [.row .own 1 (s.aI.cells.map eS),.row .own 2 (s.aI.pending.map eW),.row .own 9 (([]).map (aP .own)),.row .own 4 (s.aG.map cu),.int .i64 s.next,.int .i64 s.seq]),(4,.int .i64 0)]=some (.exit 0,[(1,.ptr .own (aO .af s)),(2,.ptr .own [.row .own 1 [],.row .own 2 [],.row .own 9 [],.row .own 4 [],.int .i64 0,.int .i64 0]),(3,.ptr .own [.row .own 1 (s.aI.cells.map eS),.row .own 2 (s.aI.pending.map eW),.row .own 9 ((((s.ai).flatMap (λk=>[k]))).map (aP .own)),.row .own 4 (s.aG.map cu),.int .i64 s.next,.int .i64 s.seq]),(4,.int .i64 (s.ai).length),(21,.bool false)]):=by
 refine qw (f:=ak (ev LI TT) (au TT) CP) (s.ai) (λk=>[k]) (λi out=>[(1,.ptr .own (aO .af s)),(2,.ptr .own [.row .own 1 [],.row .own 2 [],.row .own 9 [],.row .own 4 [],.int .i64 0,.int .i64 0]),(3,.ptr .own [.row .own 1 (s.aI.cells.map eS),.row .own 2 (s.aI.pending.map eW),.row .own 9 ((out).map (aP .own)),.row .own 4 (s.aG.map cu),.int .i64 s.next,.int .i64 s.seq]),(4,.int .i64 i)]) (λout=>[(1,.ptr .own (aO .af s)),(2,.ptr .own [.row .own 1 [],.row .own 2 [],.row .own 9 [],.row .own 4 [],.int .i64 0,.int .i64 0]),(3,.ptr .own [.row .own 1 (s.aI.cells.map eS),.row .own 2 (s.aI.pending.map eW),.row .own 9 ((out).map (aP .own)),.row .own 4 (s.aG.map cu),.int .i64 s.next,.int .i64 s.seq]),(4,.int .i64 (s.ai).length),(21,.bool false)]) (λi b out hi hl hout=>?_) (λout hout=>?_)
 ·have hw:=bx i (by have dR:bw s=bW s.aI+wL bO s.ai+wL aW s.aG:=rfl;have:=bp (w:=bO) s.ai;omega);obtain⟨_,rfl⟩:=aN.1 hi;have dR:bw s=bW s.aI+wL bO s.ai+wL aW s.aG:=rfl;have hlk:=bp (w:=bO) s.ai;have hm:=tq (cN hl);have hlo:out.length=i:=by rw[hout];exact Ap (λk=>k) _ _ (by omega)
  have hlz:(i+1)*136<=140737488355328:=by omega
  have u1:=zV (s.ai[i]).obj (by omega);try simp at u1
  simp -implicitDefEqProofs [CP,MD,hl,hw,u1,hlo,hlz,cD]
 ·simp -implicitDefEqProofs [CP,MD]
def agA(l:List Bn):fY (l.map cu)=true:=by induction l<;>simp_all[fY,scalar]
def Pa(s:Sh)(hb:bw s<=1073741824):ev LI TT 144 [.agg (aO .af s)]=some (.agg (aO .own s),[.dead]):=by
 rw[aq (b:=G8) (rs:=[.c 2 6 true 54]) (n:=1) rfl rfl];have dR:bw s=bW s.aI+wL bO s.ai+wL aW s.aG:=rfl;have KR:bW s.aI=wL wS s.aI.cells+wL dz s.aI.pending:=rfl;have l1:=bp (w:=wS) s.aI.cells;have l2:=bp (w:=dz) s.aI.pending;have l3:=bp (w:=aW) s.aG;have u1:=Eg s.aI (by omega) (by omega);try simp at u1
 have u2:=VM s hb;try simp at u2
 simp -implicitDefEqProofs [G8,u1,u2,agA,rowAt,(by omega:s.aG.length*48<=140737488355328),ME,CQ,Hi,MP,yl,CT,MR,CU,Hq,CV,G9,He,MF,CR,Hf,Hg,MG,Hh,MH,MI,CS,Hj,Hl,MJ,Ho,MK,ML,Hp,MN,MO,MQ];all_goals (repeat' split)<;>first|rfl|omega|(simp_all;done)|(simp_all;omega)|skip
end M
set_option maxHeartbeats 4000000
namespace M
open Go
variable [Lb]
structure Pl (A:List X):Prop where
 o:∀ks,X.nN ks A=A
 k:∀r p,X.gI r p A=A
 m:X.ey .af A=A
 b:X.bare.jg A=true
end M
set_option maxHeartbeats 400000
namespace M
open Go
variable [Lb]
def uc{α β:Type}(p:α->Bool)(d:α->β)(g:List α×List β)(v:α):List α×List β:=if p v=true then (g.1,g.2++[d v]) else (g.1++[v],g.2.tail++[d v])
structure DX {α β:Type} (e d:α->β) (n:Nat) (g:List α×List β):Prop where
 n:g.1.length+g.2.length=n
 m:1<=g.2.length
 r:∀x∈g.2,∃u,x=e u\/x=d u
def DX.go{α β:Type}{e d:α->β}{n:Nat}{g:List α×List β}(h:DX e d n g)(p:α->Bool)(v:α):DX e d (n+1) (uc p d g v):=by
 obtain⟨F,M⟩:=g;have hn:=h.n;have hm:=h.m;have hr:=h.r;simp at hn hm hr;unfold uc;split
 ·refine⟨by simp;omega,by simp,λx hx=>?_⟩;rcases dK.1 hx with hx|hx;·exact hr x hx
  ·exact⟨v,.inr (by simpa using hx)⟩
 ·refine⟨by simp;omega,by simp,λx hx=>?_⟩;rcases dK.1 hx with hx|hx;·exact hr x (List.mem_of_mem_tail hx)
  ·exact⟨v,.inr (by simpa using hx)⟩
def DX.row{α β:Type}{e d:α->β}{n:Nat}{g:List α×List β}(h:DX e d n g)(p:α->Bool)(v:α)(R T:List β)(hT:T=g.1.map e++g.2++e v::R):T.length=n+1+R.length/\T[n]?=some (e v)/\g.1.length<n/\(∃u,T[g.1.length]?=some (e u)\/T[g.1.length]?=some (d u))/\(if p v=true then T.set n (d v) else (T.set n (d v)).set g.1.length (e v))=(uc p d g v).1.map e++(uc p d g v).2++R/\(if p v=true then g.1.length else g.1.length+1)=(uc p d g v).1.length:=by
 obtain⟨F,M⟩:=g;have hn:=h.n;have hm:=h.m;have hr:=h.r;simp at hn hm hr hT⊢;subst hT;obtain⟨a,M',rfl⟩:∃a M',M=a::M':=by cases M with|nil=>simp at hm|cons a M=>exact⟨_,_,rfl⟩
 have e1:n=(F.map e).length+(a::M').length:=by simp;simp at hn;omega
 have e2:F.length=(F.map e).length:=by simp
 obtain⟨u,hu⟩:=hr a (by simp);refine⟨by simp at hn⊢;omega,?_,by simp at hn;omega,⟨u,?_⟩,?_,?_⟩;·rw[e1,<-fK,<-mS];simp
 ·rw[e2];rcases hu with rfl|rfl<;>simp
 ·have s1:∀w,(F.map e++(a::M'++e v::R)).set n w=F.map e++(a::M'++w::R):=by intro w;rw[e1];simp[List.set_append,pG,Nat.add_sub_cancel]
  rw[s1];unfold uc;cases hp:p v;·simp only[hp,fJ,eL];rw[e2,Iz _ _ (dF _)];simp
  ·simp
 ·unfold uc;cases hp:p v<;>simp
end M
set_option maxHeartbeats 4000000
namespace M
open Go
variable [Lb]
def aeY(o:Ob)(hb:bP o<=1073741824):(ep o).length<=9223372036854775807:=by
 by_cases hok:dx o=true
 ·have hw:bP o=o.path.length+wL wS o.names+wL wS o.values+bQ o.resp:=rfl;have hrl:=L5 o.resp;have hvl:=Nq o.values;have A:=BU hok;have a2:=A.n4;have a1:=A.len;have a3:=uJ o.t;have a4:=ow o.values.length (by omega);have et:ep o=mC++32::(o.path++32::(en o.t++32::(bq o.values.length++10::(k9 o.values++gw o.resp)))):=by unfold ep nJ qE gw;rw[aA hok,aA A.resp];simp
  rw[et];simp[BF];omega
 ·rw[(LD o).2 hok];simp
def pX(s:Sh)(o:Ob):List Kp:=s.ai.filter λk=> !(decide (k.at_=s.next)||k7 k.obj o)
def Bz(s:Sh)(o:Ob):Bool:=dx o && !gG s.aG o && !decide (s.seq=100000) && !decide (fP s.seq (ep o)=[])
def xb(s:Sh)(o:Ob):Sh:=⟨lT s.aI s.next (fP s.seq (ep o)),pX s o++[⟨o,s.next,s.seq⟩],s.aG,sG s.next,s.seq+1⟩
def uB(s:Sh)(o:Ob):Sh:=if Bz s o=true then xb s o else s
end M
set_option maxHeartbeats 4000000
namespace M
open Go
variable [Lb]
def Qt{β:Type}(p:β->Bool)(l:List β):l.flatMap (λk=>if p k=true then [k] else [])=l.filter p:=by
 induction l with
 |nil=>rfl
 |cons a l ih=>cases h:p a<;>simp[h,ih]
def HO:Sh:=⟨⟨[],[]⟩,[],[],0,0⟩
def Vr(s:Sh)(o:Ob)(hb:bw s<=1073741824)(ho:bP o<=1073741824)(t:ag):aJ (ak (ev LI TT) (au TT) xR) [(2,.ptr .own (aO .af s)),(3,.ptr .own (aV .af o)),(4,.ptr .own [.row .own 1 [],.row .own 2 [],.row .own 9 [],.row .own 4 [],.int .i64 0,.int .i64 0]),(6,.str ⟨t.toArray⟩),(7,.ptr .own [.row .own 1 (s.aI.cells.map eS),.row .own 2 (s.aI.pending.map eW),.row .own 9 (([]).map (aP .own)),.row .own 4 (s.aG.map cu),.int .i64 s.next,.int .i64 s.seq]),(8,.int .i64 0)]=some (.exit 0,[(2,.ptr .own (aO .af s)),(3,.ptr .own (aV .af o)),(4,.ptr .own [.row .own 1 [],.row .own 2 [],.row .own 9 [],.row .own 4 [],.int .i64 0,.int .i64 0]),(6,.str ⟨t.toArray⟩),(7,.ptr .own [.row .own 1 (s.aI.cells.map eS),.row .own 2 (s.aI.pending.map eW),.row .own 9 ((((s.ai).flatMap (λk=>if (!(decide (k.at_=s.next)||k7 k.obj o))=true then [k] else []))).map (aP .own)),.row .own 4 (s.aG.map cu),.int .i64 s.next,.int .i64 s.seq]),(8,.int .i64 (s.ai).length),(45,.bool false)]):=by
 refine qw (f:=ak (ev LI TT) (au TT) xR) (s.ai) (λk=>if (!(decide (k.at_=s.next)||k7 k.obj o))=true then [k] else []) (λi out=>[(2,.ptr .own (aO .af s)),(3,.ptr .own (aV .af o)),(4,.ptr .own [.row .own 1 [],.row .own 2 [],.row .own 9 [],.row .own 4 [],.int .i64 0,.int .i64 0]),(6,.str ⟨t.toArray⟩),(7,.ptr .own [.row .own 1 (s.aI.cells.map eS),.row .own 2 (s.aI.pending.map eW),.row .own 9 ((out).map (aP .own)),.row .own 4 (s.aG.map cu),.int .i64 s.next,.int .i64 s.seq]),(8,.int .i64 i)]) (λout=>[(2,.ptr .own (aO .af s)),(3,.ptr .own (aV .af o)),(4,.ptr .own [.row .own 1 [],.row .own 2 [],.row .own 9 [],.row .own 4 [],.int .i64 0,.int .i64 0]),(6,.str ⟨t.toArray⟩),(7,.ptr .own [.row .own 1 (s.aI.cells.map eS),.row .own 2 (s.aI.pending.map eW),.row .own 9 ((out).map (aP .own)),.row .own 4 (s.aG.map cu),.int .i64 s.next,.int .i64 s.seq]),(8,.int .i64 (s.ai).length),(45,.bool false)]) (λi b out hi hl hout=>?_) (λout hout=>?_)
 ·have hw:=bx i (by have dR:bw s=bW s.aI+wL bO s.ai+wL aW s.aG:=rfl;have:=bp (w:=bO) s.ai;omega);obtain⟨_,rfl⟩:=aN.1 hi;have dR:bw s=bW s.aI+wL bO s.ai+wL aW s.aG:=rfl;have hlk:=bp (w:=bO) s.ai;have hm:=tq (cN hl);have hlo:out.length<=i:=by rw[hout];exact EN _ (λb=>by split<;>simp) _ _
  have hlz:(out.length+1)*136<=140737488355328:=by omega
  have u1:=zV (s.ai[i]).obj (by omega);try simp at u1
  have u2:=Pc (s.ai[i]).obj o (by omega) ho;try simp at u2
  by_cases g:(s.ai[i]).at_=s.next
  ·simp -implicitDefEqProofs [xR,GC,g,hl,hw]
  cases g2:k7 (s.ai[i]).obj o;all_goals
  simp -implicitDefEqProofs [xR,GC,hl,hw,u1,u2,hlz,cD,g,g2]
 ·simp -implicitDefEqProofs [xR,GC]
def XG(s:Sh)(o:Ob)(hb:bw s<=1073741824)(ho:bP o<=1073741824):ev LI TT 48 [.agg (aO .af s),.agg (aV .af o)]=some (.aj [.agg (aO .own (if dI s=true then uB s o else HO)),.bool ((dI s && Bz s o))],[.dead,.dead]):=by
 rw[aq (b:=qN) (rs:=[.c 4 6 true 54,.t 5]) (n:=2) rfl rfl];have u1:=Ed s hb;try simp at u1
 have u2:=Pa s hb;try simp at u2
 cases g:dI s;·simp -implicitDefEqProofs [qN,u1,g,HO]
 rw[g] at u1;have A:=nT g;have hn:=A.n;have hq:=A.q;have dR:bw s=bW s.aI+wL bO s.ai+wL aW s.aG:=rfl;have l1:=bp (w:=bO) s.ai;have l2:=US (λk=> !(decide (k.at_=s.next)||k7 k.obj o)) s.ai;have v1:=Jm o ho;have v2:=Jn s.seq (ep o) (aeY o ho);have v3:=zU o ho;have v4:=Ec s.aG o (by omega) ho;try simp at v1 v2 v3 v4
 have hlz:((pX s o).length+1)*136<=140737488355328:=by unfold pX;omega
 have hw:=cy (n:=s.seq+1) (by omega) (by omega);unfold uB Bz;cases g1:dx o;·simp -implicitDefEqProofs [qN,u1,u2,v1,v2,v3,v4,g,g1]
 cases g2:gG s.aG o;rotate_left;·simp -implicitDefEqProofs [qN,u1,u2,v1,v2,v3,v4,g,g1,g2]
 by_cases g3:s.seq=100000;·rw[g3] at v2 u1 u2;simp -implicitDefEqProofs [qN,u1,u2,v1,v2,v3,v4,g,g1,g2,g3]
 by_cases g4:fP s.seq (ep o)=[];·rw[g4] at v2;simp -implicitDefEqProofs [qN,u1,u2,v1,v2,v3,v4,g,g1,g2,g3,g4]
 have v5:=Vr s o hb ho (fP s.seq (ep o));rw[Qt,show s.ai.filter (λk=> !(decide (k.at_=s.next)||k7 k.obj o))=pX s o from rfl] at v5;have v6:=Pb ⟨s.aI,pX s o,s.aG,s.next,s.seq⟩ s.next (fP s.seq (ep o)) A.d (by omega)
 have v7:=zV o ho;have v8:=O9 s.next hn
 unfold Gi at v6;try simp at v5 v6 v7 v8
 unfold xb;simp -implicitDefEqProofs [qN,u1,u2,v1,v2,v3,v4,v5,v6,v7,v8,g,g1,g2,g3,g4,hw,hlz,cD];all_goals (repeat' split)<;>first|rfl|omega|(simp_all;done)|(simp_all;omega)|skip
end M
set_option maxHeartbeats 4000000
namespace M
open Go
variable [Lb]
def Tb(n:Int)(b:ag):(fP n b).length<=2040:=by
 unfold fP;split;·rename_i h;unfold LV;have l1:=ow n.toNat (by omega);have l2:=ow b.length (by omega);have l3:=wh 17 (tj (bq n.toNat++32::(bq b.length++10::b))) (Nat.lt_trans (M5 _) (by decide));simp;omega
 ·simp
def adJ(s:Sh)(o:Ob):bw (uB s o)<=bw s+bP o+2100:=by
 unfold uB;split
 ·have h1:=S0 s.aI s.next (fP s.seq (ep o))
  have h2:=Tb s.seq (ep o);have h3:wL bO (pX s o)<=wL bO s.ai:=Um bO _ _;have h4:wL bO [⟨o,s.next,s.seq⟩]=bP o+1:=by simp[wL,bO];omega
  show bW (lT s.aI s.next (fP s.seq (ep o)))+wL bO (pX s o++[⟨o,s.next,s.seq⟩])+wL aW s.aG<=bW s.aI+wL bO s.ai+wL aW s.aG+bP o+2100;rw[yU];omega
 ·omega
end M
set_option maxHeartbeats 4000000
namespace M
open Go
variable [Lb]
def Wq{α:Type}(p:α->Bool)(a b:List α):bu p (a++b)=(bu p a && bu p b):=by
 induction a with
 |nil=>simp[bu]
 |cons x a ih=>simp[bu,ih,NN]
def LP{d:bD}{a:Int}(t:ag)(h:cS d=true)(ha:0<=a/\a<=19):cS (lT d a t)=true:=by
 obtain⟨h0,h1,h2⟩:=ju h;have hf:=wF h;unfold lT;split;·obtain⟨g0,g1,g2⟩:=ju hf;unfold cS;simp[g1,bu,nM,ha]
 ·rename_i hp;unfold cS at h⊢;simp only[av,aZ,fK,cO,gS,Wq] at h⊢;simp[bu,nM,ha] at h⊢;exact⟨h.1,by omega⟩
def zL(s:Sh)(b:Bn):Bool:=dW b && !decide (5<=(s.aG.length:Int)) && !decide (s.seq=100000)
def Ja(s:Sh)(b:Bn):bD:=gY (lT s.aI s.aG.length (fP s.seq (iA b)))
def Ev(s:Sh)(b:Bn):List Kp:=s.ai.filter λk=> !gG (s.aG++[b]) k.obj
def zM(s:Sh)(b:Bn):Sh:=⟨Ja s b,Ev s b,s.aG++[b],s.next,s.seq+1⟩
def tQ(s:Sh)(b:Bn):Sh:=if zL s b=true then zM s b else s
def WL(s:Sh)(b:Bn):bw (tQ s b)<=bw s+aW b+2100:=by
 unfold tQ;split
 ·have h1:=S0 s.aI s.aG.length (fP s.seq (iA b));have h2:=Tb s.seq (iA b);have h5:=Au (lT s.aI s.aG.length (fP s.seq (iA b)));have h3:wL bO (Ev s b)<=wL bO s.ai:=Um bO _ _;have h4:wL aW [b]=aW b+1:=by simp[wL];omega
  show bW (gY (lT s.aI s.aG.length (fP s.seq (iA b))))+wL bO (Ev s b)+wL aW (s.aG++[b])<=bW s.aI+wL bO s.ai+wL aW s.aG+aW b+2100;rw[yU];omega
 ·omega
def WN(b:Bn)(hb:aW b<=1073741824):(iA b).length<=9223372036854775807:=by
 have h1:=uJ b.t;have h2:aW b=b.a.length+b.b.length:=rfl;have h3:(Ip b.kind).length<=10:=by unfold Ip;split<;>(try split)<;>decide
 unfold iA;split;·split<;>simp<;>omega
 ·simp
end M
set_option maxHeartbeats 4000000
namespace M
open Go
variable [Lb]
def Vi(s:Sh)(D:bD)(B:List Bn)(sq:Int)(hb:bw s<=1000000000)(hB:wL aW B<=1073741824):aJ (ak (ev LI TT) (au TT) Ce) [(2,.ptr .own (aO .af s)),(4,.ptr .own [.row .own 1 [],.row .own 2 [],.row .own 9 [],.row .own 4 [],.int .i64 0,.int .i64 0]),(6,.ptr .own [.row .own 1 (D.cells.map eS),.row .own 2 (D.pending.map eW),.row .own 9 (([]).map (aP .own)),.row .own 4 (B.map cu),.int .i64 s.next,.int .i64 sq]),(7,.int .i64 0)]=some (.exit 0,[(2,.ptr .own (aO .af s)),(4,.ptr .own [.row .own 1 [],.row .own 2 [],.row .own 9 [],.row .own 4 [],.int .i64 0,.int .i64 0]),(6,.ptr .own [.row .own 1 (D.cells.map eS),.row .own 2 (D.pending.map eW),.row .own 9 ((((s.ai).flatMap (λk=>if (!gG B k.obj)=true then [k] else []))).map (aP .own)),.row .own 4 (B.map cu),.int .i64 s.next,.int .i64 sq]),(7,.int .i64 (s.ai).length),(58,.bool false)]):=by
 refine qw (f:=ak (ev LI TT) (au TT) Ce) (s.ai) (λk=>if (!gG B k.obj)=true then [k] else []) (λi out=>[(2,.ptr .own (aO .af s)),(4,.ptr .own [.row .own 1 [],.row .own 2 [],.row .own 9 [],.row .own 4 [],.int .i64 0,.int .i64 0]),(6,.ptr .own [.row .own 1 (D.cells.map eS),.row .own 2 (D.pending.map eW),.row .own 9 ((out).map (aP .own)),.row .own 4 (B.map cu),.int .i64 s.next,.int .i64 sq]),(7,.int .i64 i)]) (λout=>[(2,.ptr .own (aO .af s)),(4,.ptr .own [.row .own 1 [],.row .own 2 [],.row .own 9 [],.row .own 4 [],.int .i64 0,.int .i64 0]),(6,.ptr .own [.row .own 1 (D.cells.map eS),.row .own 2 (D.pending.map eW),.row .own 9 ((out).map (aP .own)),.row .own 4 (B.map cu),.int .i64 s.next,.int .i64 sq]),(7,.int .i64 (s.ai).length),(58,.bool false)]) (λi b out hi hl hout=>?_) (λout hout=>?_)
 ·have hw:=bx i (by have dR:bw s=bW s.aI+wL bO s.ai+wL aW s.aG:=rfl;have:=bp (w:=bO) s.ai;omega);obtain⟨_,rfl⟩:=aN.1 hi;have dR:bw s=bW s.aI+wL bO s.ai+wL aW s.aG:=rfl;have hlk:=bp (w:=bO) s.ai;have hm:=tq (cN hl);have hlo:out.length<=i:=by rw[hout];exact EN _ (λb=>by split<;>simp) _ _
  have hlz:(out.length+1)*136<=140737488355328:=by omega
  have u1:=zV (s.ai[i]).obj (by omega);try simp at u1
  have u2:=Ec B (s.ai[i]).obj hB (by omega);try simp at u2
  cases g2:gG B (s.ai[i]).obj;all_goals
  simp -implicitDefEqProofs [Ce,Ma,hl,hw,u1,u2,hlz,cD,g2]
 ·simp -implicitDefEqProofs [Ce,Ma]
def Xx(s:Sh)(b:Bn)(hb:bw s<=1000000000)(ho:aW b<=10000000):ev LI TT 51 [.agg (aO .af s),.agg (cu b)]=some (.aj [.agg (aO .own (if dI s=true then tQ s b else HO)),.bool ((dI s && zL s b))],[.dead,.dead]):=by
 rw[aq (b:=sP) (rs:=[.c 4 6 true 54,.t 5]) (n:=2) rfl rfl];have u1:=Ed s (by omega);try simp at u1
 have u2:=Pa s (by omega);try simp at u2
 cases g:dI s;·simp -implicitDefEqProofs [sP,u1,g,HO]
 rw[g] at u1;have A:=nT g;have hn:=A.n;have hq:=A.q;have Km:=A.b;have dR:bw s=bW s.aI+wL bO s.ai+wL aW s.aG:=rfl;have l1:=bp (w:=bO) s.ai;have v1:=Eb b (by omega);try simp at v1
 have hlz:(s.aG.length+1)*48<=140737488355328:=by omega
 have hw:=cy (n:=s.seq+1) (by omega) (by omega);unfold tQ zL;cases g1:dW b;·simp -implicitDefEqProofs [sP,u1,u2,v1,g,g1]
 by_cases g2:5<=(s.aG.length:Int)
 ·have ke:(s.aG.length:Int)=5:=by omega
  simp -implicitDefEqProofs [sP,u1,u2,v1,g,g1,ke]
 have ke:¬(s.aG.length:Int)=5:=by omega
 by_cases g3:s.seq=100000;·rw[g3] at u1 u2;simp -implicitDefEqProofs [sP,u1,u2,v1,g,g1,g2,ke,g3]
 have v2:=OV b (by omega);have v3:=Jn s.seq (iA b) (WN b (by omega));have v4:=Pb s s.aG.length (fP s.seq (iA b)) A.d (by omega);have v5:=zS (lT s.aI s.aG.length (fP s.seq (iA b))) (LP _ A.d (by omega));have hwb:wL aW (s.aG++[b])<=1073741824:=by rw[yU];have:wL aW [b]=aW b+1:=(by simp[wL];omega);have e2:aW b<=10000000:=ho;omega
 have v6:=Vi s (Ja s b) (s.aG++[b]) (s.seq+1) hb hwb;unfold Gi at v4;rw[Qt,show s.ai.filter (λk=> !gG (s.aG++[b]) k.obj)=Ev s b from rfl] at v6;rw[show gY (lT s.aI s.aG.length (fP s.seq (iA b)))=Ja s b from rfl] at v5;try simp at v2 v3 v4 v5 v6
 unfold zM;simp -implicitDefEqProofs [sP,u1,u2,v1,v2,v3,v4,v5,v6,g,g1,g2,ke,g3,hw,hlz,cD,Mb,Mc,Me,Mf];all_goals (repeat' split)<;>first|rfl|omega|(simp_all;done)|(simp_all;omega)|skip
end M
set_option maxHeartbeats 4000000
namespace M
open Go
variable [Lb]
def xm(q:Rq)(r:ck):Bool:=oR q && fF r && decide (q.method=1) && decide (r.status=200) && !(fS q.fields).ns && !(fS r.fields).ns && !(fS r.fields).pr && (fS r.fields).ha && nG (dO r.fields)
def sI(q:Rq)(r:ck)(t:Int):Ob:=⟨q.path,dO r.fields,valuesOf (dO r.fields) q.fields,r,t⟩
def uK(q:Rq)(r:ck)(t:Int):Bool:=xm q r && dx (sI q r t)
def sJ(q:Rq)(r:ck)(t:Int):Ob:=if uK q r t=true then sI q r t else bY
def shC(c:Ca)(s:Sh):Ca:=⟨s,c.ni,c.now,c.seen,c.sent⟩
def TA(c:Ca)(q:Rq)(r:ck):Ca:=⟨c.jx,c.ni,c.now,c.seen++[⟨q,r,c.now⟩],c.sent⟩
end M
set_option maxHeartbeats 4000000
namespace M
open Go
variable [Lb]
def HR{s:Sh}(h1:cS s.aI=true)(h2:s.aG.length<=5)(h3:5<=s.next/\s.next<=19)(h4:1<=s.seq/\s.seq<=100000)(h5:∀b∈s.aG,dW b=true)(h6:zx s.seq s.ai):dI s=true:=by unfold dI;simp only[av,aZ];exact⟨⟨⟨⟨⟨h1,by omega⟩,h3⟩,h4⟩,ff.2 h5⟩,Gf.2 h6⟩
def zx.sub{S S':Int}{l l':List Kp}(h:zx S l)(hs:List.Sublist l' l)(hS:S<=S'):zx S' l':=
 ⟨λx hx=>by have:=h.k x (hs.subset hx);exact⟨this.1,this.2.1,this.2.2.1,by omega⟩,h.p.sublist hs⟩
def adI{s:Sh}{o:Ob}(h:dI s=true):dI (uB s o)=true:=by
 unfold uB;split
 ·rename_i g;have A:=nT h;unfold Bz at g;simp only[av,n9,II] at g;obtain⟨⟨⟨g1,g2⟩,g3⟩,g4⟩:=g;have hn:=A.n;have hq:=A.q;have P:=Gf.1 A.os;refine HR (LP _ A.d (by omega)) (by have:=A.b;simp only[xb];omega) (Sy hn) (by simp only[xb];omega) (λb hb=>ff.1 A.bs b hb) ?_;have hs:List.Sublist (pX s o) s.ai:=UO;refine⟨λx hx=>?_,?_⟩
  ·rcases dK.1 hx with hx|hx;·have:=P.k x (hs.subset hx);exact⟨this.1,this.2.1,this.2.2.1,by simp only[xb];omega⟩
   ·simp at hx;subst hx;exact⟨g1,hn,by simp only;omega,by simp only[xb];omega⟩
  ·show (pX s o++[_]).Pairwise _;rw[vE];refine⟨P.p.sublist hs,by simp,λx hx y hy=>?_⟩;simp at hy;subst hy;have h1:=P.k x (hs.subset hx);have h2:=(List.mem_filter.1 hx).2;simp at h2;exact⟨h2.1,h1.2.2.2⟩
 ·exact h
def WK{s:Sh}{b:Bn}(h:dI s=true):dI (tQ s b)=true:=by
 unfold tQ;split
 ·rename_i g;have A:=nT h;unfold zL at g;simp only[av,n9,II] at g;obtain⟨⟨g1,g2⟩,g3⟩:=g;have hn:=A.n;have hq:=A.q;have hb:=A.b;have P:=Gf.1 A.os;refine HR (wF (LP _ A.d (by omega))) (by simp only[zM,fK,UU];omega) hn (by simp only[zM];omega) (λc hc=>?_) (P.sub UO (by simp only[zM];omega));rcases dK.1 hc with hc|hc;·exact ff.1 A.bs c hc
  ·simp at hc;subst hc;exact g1
 ·exact h
def aes{d:bD}(h:cS d=true):dI (uG d)=true:=by
 have B:=F6 d;have O:=BH d;have hm:=O.m;have hsub:=xh (iR d);refine HR h B.2.1 (aez λk hk=>(F5 (hsub.subset hk)).1.a) (by simp only[uG];omega) B.1 ⟨λx hx=>?_,?_⟩;·have:=F5 (hsub.subset hx);exact⟨this.1.o,this.1.a,this.1.s.1,by have:=this.2;simp only[uG];omega⟩
 ·have h1:(iR d).Pairwise λx y=>x.at_≠y.at_:=((HU Kp.seq (kU d).1).pairwise_iff λ{x y} h e=>h e.symm).2 O.d;have h2:(iR d).Pairwise λx y=>x.seq<=y.seq:=agN Kp.seq (kU d).1;have h3:=Ll (iR d);exact((h1.sublist hsub).and ((h2.sublist hsub).and h3)).imp λ⟨a,b,c⟩=>⟨a,by omega⟩
structure pN (c:Ca):Prop where
 s:dI c.jx=true
 n:0<=c.now/\c.now<=1000000
 e:c.seen.length<=1500
 t:c.sent.length<=1500
 f:c.ni.length<=5
 q:∀x∈c.ni,oR x.q=true/\(1<=x.who.length/\x.who.length<=5)/\(x.E3=true->dx x.old=true)
 p:c.ni.Pairwise λx y=>Wp x.q y.q=false
end M
set_option maxHeartbeats 4000000
namespace M
open Go
variable [Lb]
def pN.sent{c:Ca}(h:pN c){l:List Rp}(hl:c.sent.length+l.length<=1500):pN ⟨c.jx,c.ni,c.now,c.seen,c.sent++l⟩:=
 ⟨h.s,h.n,h.e,by simp;omega,h.f,h.q,h.p⟩
def pN.jx{c:Ca}(h:pN c){s:Sh}(hs:dI s=true):pN (shC c s):=⟨hs,h.n,h.e,h.t,h.f,h.q,h.p⟩
def pN.seen{c:Ca}(h:pN c){q:Rq}{r:ck}(hl:c.seen.length<1500):pN (TA c q r):=⟨h.s,h.n,by simp[TA];omega,h.t,h.f,h.q,h.p⟩
end M
set_option maxHeartbeats 4000000
namespace M
open Go
variable [Lb]
end M
set_option maxHeartbeats 4000000
namespace M
open Go
variable [Fd]
end M
set_option maxHeartbeats 8000000
namespace M
open Go
variable [Fd]
end M
set_option maxHeartbeats 8000000
namespace M
open Go
variable [Fd]
end M
set_option maxHeartbeats 8000000
namespace M
open Go
variable [Fd]
end M
set_option maxHeartbeats 8000000
namespace M
open Go
variable [Fd]
end M
set_option maxHeartbeats 8000000
namespace M
open Go
variable [Lb]
def Uj{fs:List aE}(hb:wL aF fs<=1000000000):(dO fs).length<=1073741824/\∀w∈dO fs,w.length<=1073741824:=by have h0:=Il fs;refine⟨by omega,λw hw=>?_⟩;unfold dO at hw;obtain⟨x,hx,rfl⟩:=aT.1 hw;have h1:=yY _ x hx;have h2:=oA fs jr;simp only[cC,dV];omega
def XI(q:Rq)(r:ck)(hq:dh q<=1000000000)(hr:bQ r<=1000000000):ev LI TT 240 [.agg (dw .af q),.agg (jC .af r)]=some (.bool (xm q r),[.dead,.dead]):=by
 rw[aq (b:=mH) (rs:=[.t 4]) (n:=2) rfl rfl];have fk:bQ r=wL aF r.fields+r.body.length:=rfl;have wU:dh q=q.path.length+wL aF q.fields+q.body.length:=rfl;have V:=Uj (fs:=r.fields) (by omega);unfold xm;have u1:=O3 q (by omega);try simp at u1
 have u2:=Jo r (by omega);try simp at u2
 have u3:=zR r.fields (by omega);try simp at u3
 have u4:=zR q.fields (by omega);try simp at u4
 have u5:=Ee r.fields (by omega);try simp at u5
 have u6:=Pe (dO r.fields) V.1 V.2;try simp at u6
 rw[show (bu eE (dO r.fields) && decide (((dO r.fields).length:Int)<=4))=nG (dO r.fields) from rfl] at u6;generalize nG (dO r.fields)=b6 at u6⊢;generalize dO r.fields=W at u5 u6;generalize fS r.fields=c1 at u3⊢;generalize fS q.fields=c2 at u4⊢;generalize fF r=b2 at u2⊢;generalize oR q=b1 at u1⊢;obtain⟨n1,n2,n3,n4,n5,n6⟩:=c1;obtain⟨m1,m2,m3,m4,m5,m6⟩:=c2;simp only at u3 u4;cases b1;·simp -implicitDefEqProofs [mH,u1]
 cases b2;·simp -implicitDefEqProofs [mH,u1,u2]
 by_cases g1:q.method=1;rotate_left;·simp -implicitDefEqProofs [mH,u1,u2,g1]
 rw[g1] at u1;by_cases g2:r.status=200;rotate_left;·simp -implicitDefEqProofs [mH,u1,u2,g1,g2]
 rw[g2] at u2;cases m1;rotate_left;·simp -implicitDefEqProofs [mH,sS,uQ,uR,sU,uS,uT,uU,u1,u2,u3,u4,g1,g2]
 cases n1;rotate_left;·simp -implicitDefEqProofs [mH,sS,uQ,uR,sU,uS,uT,uU,u1,u2,u3,u4,g1,g2]
 cases n3;rotate_left;·simp -implicitDefEqProofs [mH,sS,uQ,uR,sU,uS,uT,uU,u1,u2,u3,u4,g1,g2]
 cases n5;·simp -implicitDefEqProofs [mH,sS,uQ,uR,sU,uS,uT,uU,u1,u2,u3,u4,g1,g2]
 simp -implicitDefEqProofs [mH,u1,u2,u3,u4,u5,u6,g1,g2,sS,uQ,uR,sU,uS,uT,uU];all_goals (repeat' split)<;>first|rfl|omega|(simp_all;done)|(simp_all;omega)|skip
def aex{l:List ag}(h:nG l=true):l.length<=4:=by unfold nG at h;simp only[av,aZ] at h;omega
def ajU(fs:List aE)(n:ag):(nW fs n).length<=wL aF fs+1:=by
 have h:=oA fs n;unfold nW;cases hg:dr fs n with
 |none=>simp
 |some x=>rw[hg] at h;simp at h⊢;omega
def aeO{q:Rq}{r:ck}(t:Int)(hm:xm q r=true)(hq:dh q<=100000000)(hr:bQ r<=100000000):bP (sI q r t)<=1073741824:=by
 unfold xm at hm;simp only[av] at hm;have hr2:=LZ hm.1.1.1.1.1.1.1.2;have hn:=aex hm.2;have fk:bQ r=wL aF r.fields+r.body.length:=rfl;have wU:dh q=q.path.length+wL aF q.fields+q.body.length:=rfl;have h1:=Ui r.fields;have h2:wL aF r.fields+1<=801:=by omega
 have h3:=Nat.mul_le_mul h2 h2;have h4:wL wS (valuesOf (dO r.fields) q.fields)<=4*(wL aF q.fields+1+1):=tu (λw hw=>by unfold valuesOf at hw;obtain⟨n,_,rfl⟩:=aT.1 hw;exact ajU q.fields n) (by rw[Nr];exact hn)
 have e:bP (sI q r t)=q.path.length+wL wS (dO r.fields)+wL wS (valuesOf (dO r.fields) q.fields)+bQ r:=rfl;omega
def XK(q:Rq)(r:ck)(t:Int)(hq:dh q<=100000000)(hr:bQ r<=100000000):ev LI TT 200 [.agg (dw .af q),.agg (jC .af r),.int .i64 t]=some (.aj [.agg (aV .own (sJ q r t)),.bool (uK q r t)],[.dead,.dead,.dead]):=by
 rw[aq (b:=xT) (rs:=[.c 6 7 true 31,.t 7]) (n:=3) rfl rfl];have fk:bQ r=wL aF r.fields+r.body.length:=rfl;have wU:dh q=q.path.length+wL aF q.fields+q.body.length:=rfl;have V:=Uj (fs:=r.fields) (by omega);have oD:=bp (w:=aF) q.fields;have wK:=bp (w:=aF) r.fields;have u1:=XI q r (by omega) (by omega);try simp at u1
 have u2:=Ee r.fields (by omega);try simp at u2
 have u3:=Pf r (by omega);try simp at u3
 have u4:=O7 (dO r.fields) q.fields V.1 (by omega);try simp at u4
 unfold sJ uK;cases g1:xm q r<;>rw[g1] at u1;·simp -implicitDefEqProofs [xT,Cr,Ct,Cu,u1,bY]
 have u5:=zU (sI q r t) (aeO t g1 hq hr);cases g2:dx (sI q r t)<;>rw[g2] at u5<;>simp[sI] at u5;·simp -implicitDefEqProofs [xT,Cr,Ct,Cu,u1,u2,u3,u4,u5,bY]
 simp -implicitDefEqProofs [xT,u1,u2,u3,u4,sI,Cr,Ct,Cu];all_goals (repeat' split)<;>first|rfl|omega|(simp_all;done)|(simp_all;omega)|skip
def aeS{q:Rq}{r:ck}{t:Int}(h:uK q r t=true):bP (sJ q r t)<=1300:=by unfold sJ;rw[aA h];unfold uK at h;simp only[av] at h;exact BV h.2
def aeR{q:Rq}{r:ck}{t:Int}(h:uK q r t=true):(sJ q r t).t=t:=by unfold sJ;rw[aA h];rfl
end M
set_option maxHeartbeats 8000000
namespace M
open Go
variable [Lb]
def ad5{xt:Nat}{γ δ:Type}{f:ah->cG}(st:γ->ah)(μ:γ->Nat)(Inv:γ->Prop)(E:γ->ah)(R:δ->ah)(IZ:δ->Prop)
  (h:∀g,Inv g->(∃g',Inv g'/\f (st g)=some (.exit xt,E g'))\/(∃d,IZ d/\f (st g)=some (.ret,R d))\/∃g',Inv g'/\μ g'<μ g/\f (st g)=some (.normal,st g'))(g:γ)(hg:Inv g):(∃g',Inv g'/\aJ f (st g)=some (.exit xt,E g'))\/∃d,IZ d/\aJ f (st g)=some (.ret,R d):=by
 suffices H:∀n g,μ g=n->Inv g->(∃g',Inv g'/\aJ f (st g)=some (.exit xt,E g'))\/∃d,IZ d/\aJ f (st g)=some (.ret,R d) from H _ g rfl hg
 intro n;induction n using Nat.strongRecOn with
 |ind n ih=>
  intro g hn hI;rcases h g hI with ⟨g',h1,h2⟩|⟨d,h1,h2⟩|⟨g',h1,h2,h3⟩;·exact .inl ⟨g',h1,by rw[dS,h2];rfl⟩
  ·exact .inr ⟨d,h1,by rw[dS,h2];rfl⟩
  ·rw[dS,h3];exact ih _ (by omega) g' rfl h1
def Ul{fs:List aE}{n:Nat}(h:wL aF fs<=n):fs.length<=n:=iZ (bp fs) h
def aj4(c:aY)(t:Int):∃(c':aY) (o:Ob),bP o<=2000/\o.t=t/\ev LI TT 125 [.ptr .own (aL c),.int .i64 t]=some (.agg (aV .own o),[.ptr .own (aL c'),.dead]):=by
 have H:=ad5 (xt:=0) (f:=ak (ev LI TT) (au TT) CJ)
  (λ(g:aY×Nat)=>[(0,.aB 100000 [] 0 0),(1,.int .i64 t),(4,.ptr .own [.str ⟨#[]⟩,.row .own 1 [],.row .own 1 [],.int .i64 0,.row .own 2 [],.str ⟨#[]⟩,.int .i64 0]),(5,.int .i64 g.2),(100000,.ptr .own (aL g.1))])
  (λg=>20 - g.2) (λg=>g.2<=4)
  (λg=>[(0,.aB 100000 [] 0 0),(1,.int .i64 t),(4,.ptr .own [.str ⟨#[]⟩,.row .own 1 [],.row .own 1 [],.int .i64 0,.row .own 2 [],.str ⟨#[]⟩,.int .i64 0]),(5,.int .i64 g.2),(11,.bool false),(100000,.ptr .own (aL g.1))])
  (λ(d:aY×Ob)=>[(4,.ptr .own (aV .own d.2)),(100000,.ptr .own (aL d.1))])
  (λd=>bP d.2<=2000/\d.2.t=t)
  (λg hg=>by
   obtain⟨c,i⟩:=g;simp only at hg;by_cases h:(i:Int)<4
   ·right;have hw:=bx i (by omega);obtain⟨c1,⟨st,fs,bd⟩,hr,hst,e1⟩:=akh c;simp only[bQ] at hr;have hfl:=Ul (n:=2000) (fs:=fs) (by omega);have e2:=OY fs [99,97,99,104,101,45,99,111,110,116,114,111,108] (by omega);have d1:=PN fs [99,97,99,104,101,45,99,111,110,116,114,111,108];have d2:=YB fs [99,97,99,104,101,45,99,111,110,116,114,111,108];obtain⟨c2,v,hv,e3⟩:=eT c1 [[109,97,120,45,97,103,101,61,53],[109,97,120,45,97,103,101,61,50,48]] 30 (by simp) (by simp) (by simp);generalize rQ fs [99,97,99,104,101,45,99,111,110,116,114,111,108]=ER at e2 d1 d2;have e4:=O1 ER [99,97,99,104,101,45,99,111,110,116,114,111,108] v (by omega);have d3:=S3 ER [99,97,99,104,101,45,99,111,110,116,114,111,108] v;have d4:=afY ER [99,97,99,104,101,45,99,111,110,116,114,111,108] v;generalize sM ER [99,97,99,104,101,45,99,111,110,116,114,111,108] v=wG at e4 d3 d4;obtain⟨c3,⟨m,p,qf,qb⟩,hq,hm,e5⟩:=Uv c2;simp only[dh] at hq;have hql:=Ul (n:=2000) (fs:=qf) (by omega);have e6:=OY qf [99,97,99,104,101,45,99,111,110,116,114,111,108] (by omega);have d5:=PN qf [99,97,99,104,101,45,99,111,110,116,114,111,108];generalize rQ qf [99,97,99,104,101,45,99,111,110,116,114,111,108]=Gj at e6 d5;have hdl:([99,97,99,104,101,45,99,111,110,116,114,111,108]:ag).length=13:=rfl;have e7:=XK ⟨1,p,Gj,[]⟩ ⟨200,wG,bd⟩ t (by simp only[dh,gS];omega) (by simp only[bQ];omega);simp at e3;try simp at e1
    try simp at e2
    try simp at e4
    try simp at e5
    try simp at e6
    cases ho:uK ⟨1,p,Gj,[]⟩ ⟨200,wG,bd⟩ t
    ·rw[ho] at e7;generalize sJ ⟨1,p,Gj,[]⟩ ⟨200,wG,bd⟩ t=ob at e7;try simp at e7
     right;refine⟨(c3,i+1),by simp only;omega,by simp only;omega,?_⟩;simp -implicitDefEqProofs [CJ,GV,e1,e2,e3,e4,e5,e6,e7,h,hw,cK,cH,cJ]
    ·rw[ho] at e7;have w1:=aeS ho;have w2:=aeR ho;generalize sJ ⟨1,p,Gj,[]⟩ ⟨200,wG,bd⟩ t=ob at e7 w1 w2;try simp at e7
     left;refine⟨(c3,ob),⟨by simp only;omega,by simp only;exact w2⟩,?_⟩;simp -implicitDefEqProofs [CJ,GV,e1,e2,e3,e4,e5,e6,e7,h,hw,cK,cH,cJ]
   ·left;refine⟨(c,i),hg,?_⟩;simp -implicitDefEqProofs [CJ,GV,h])
  (c,0) (by simp)
 rcases H with ⟨⟨c',i⟩,h1,e⟩|⟨⟨c',ob⟩,⟨h1,h2⟩,e⟩;·refine⟨c',⟨[47,97],[],[],⟨200,[],[]⟩,t⟩,by simp[bP,bQ,wL],rfl,?_⟩;simp at e;rw[aq (b:=xW) (rs:=_) (n:=2) rfl rfl];simp -implicitDefEqProofs [xW,e,cK,cH,cJ]
 ·refine⟨c',ob,h1,h2,?_⟩;simp at e;rw[aq (b:=xW) (rs:=_) (n:=2) rfl rfl];simp -implicitDefEqProofs [xW,e]
end M
set_option maxHeartbeats 8000000
namespace M
open Go
variable [Lb]
def aj7(c:aY)(n:Nat)(hn:n<=1000000):∃(c':aY) (l:List Bool),l.length<=n+2/\ev LI TT 194 [.ptr .own (aL c),.int .i64 n]=some (.row .own 1 (l.map eB),[.ptr .own (aL c'),.dead]):=by
 obtain⟨⟨⟨c',i⟩,out⟩,⟨h1,h2⟩,e⟩:=uE (xt:=0) (f:=ak (ev LI TT) (au TT) GZ)
  (λ(g:(aY×Nat)×List Bool)=>[(0,.aB 100000 [] 0 0),(1,.int .i64 n),(5,.row .own 1 (g.2.map eB)),(6,.int .i64 g.1.2),(100000,.ptr .own (aL g.1.1))])
  (λg=>n+20 - g.1.2) (λg=>g.2.length<=g.1.2/\g.1.2<=n+2)
  (λg=>[(0,.aB 100000 [] 0 0),(1,.int .i64 n),(5,.row .own 1 (g.2.map eB)),(6,.int .i64 g.1.2),(14,.bool false),(100000,.ptr .own (aL g.1.1))])
  (λg hg=>by
   obtain⟨⟨c,i⟩,out⟩:=g;obtain⟨h1,h2⟩:=hg;simp only at h1 h2;obtain⟨c1,v,v0,v1,e1⟩:=fR c 3 (by omega) (by omega);have hw1:IntKind.i64.wrap ((n:Int)+v)=n+v:=cy (by omega) (by omega);have fk:IntKind.i64.wrap ((n:Int)+v - 1)=n+v - 1:=cy (by omega) (by omega);by_cases h:(i:Int)<n+v - 1
   ·right;have hw:=bx i (by omega);obtain⟨c2,b,e2⟩:=yZ c1 2 (by omega);have h8:out.length+1<=140737488355328:=by omega
    refine⟨((c2,i+1),out++[b]),⟨by simp;omega,by simp only;omega⟩,by simp only;omega,?_⟩;simp -implicitDefEqProofs [GZ,MB,e1,e2,h,hw,hw1,fk,cD,h8,cK,cH,cJ]
   ·left;refine⟨((c1,i),out),⟨h1,h2⟩,?_⟩;simp -implicitDefEqProofs [GZ,MB,e1,h,hw1,fk])
  ((c,0),[]) ⟨by simp,by simp⟩
 simp only at h1 h2;refine⟨c',out,by omega,?_⟩;simp at e;rw[aq (b:=G0) (rs:=_) (n:=2) rfl rfl];simp -implicitDefEqProofs [G0,e]
@[irreducible] def mN(i:Nat):Nat:=1000+30000*i
def HP(i:Nat):mN (i+1)=mN i+30000:=by unfold mN;omega
def TF{i:Nat}(h:i<=25):mN i<=751000:=by unfold mN;omega
def agF:dI qU=true:=by decide+kernel
def agG:bw qU<=1000:=by decide+kernel
def akb(c:aY):∃(c':aY) (s:Sh),dI s=true/\bw s<=1000000/\ev LI TT 120 [.ptr .own (aL c)]=some (.agg (aO .own s),[.ptr .own (aL c')]):=by
 obtain⟨c0,N,n0,n1,u1⟩:=fR c 25 (by omega) (by omega);have u2:=O5
 obtain⟨⟨⟨c',i⟩,s⟩,⟨h1,h2,h3⟩,e⟩:=uE (xt:=0) (f:=ak (ev LI TT) (au TT) vq)
  (λ(g:(aY×Nat)×Sh)=>[(0,.aB 100000 [] 0 0),(2,.ptr .own [.row .own 1 [],.row .own 2 [],.row .own 9 [],.row .own 4 [],.int .i64 0,.int .i64 0]),(3,.ptr .own (aO .own g.2)),(4,.int .i64 N),(5,.int .i64 g.1.2),(100000,.ptr .own (aL g.1.1))])
  (λg=>50 - g.1.2) (λg=>g.1.2<=25/\dI g.2=true/\bw g.2<=mN g.1.2)
  (λg=>[(0,.aB 100000 [] 0 0),(2,.ptr .own [.row .own 1 [],.row .own 2 [],.row .own 9 [],.row .own 4 [],.int .i64 0,.int .i64 0]),(3,.ptr .own (aO .own g.2)),(4,.int .i64 N),(5,.int .i64 g.1.2),(11,.bool false),(100000,.ptr .own (aL g.1.1))])
  (λg hg=>by
   obtain⟨⟨c,i⟩,s⟩:=g;obtain⟨h1,h2,h3⟩:=hg;simp only at h1 h2 h3;by_cases h:(i:Int)<N
   ·right;have hw:=bx i (by omega);have hB:=TF h1;have hd:=(nT h2).d;have dR:bw s=bW s.aI+wL bO s.ai+wL aW s.aG:=rfl;obtain⟨c1,k,k0,k1,e1⟩:=fR c 12 (by omega) (by omega);by_cases g0:k=0
    ·subst g0;obtain⟨c2,b,hb,e2⟩:=Us c1 i;have e3:=Xx s b (by omega) (by omega);rw[aA h2] at e3;have b1:=WK (b:=b) h2;have b2:=WL s b;generalize (dI s && zL s b)=bb at e3;generalize tQ s b=s2 at e3 b1 b2;try simp at e2
     try simp at e3
     refine⟨((c2,i+1),s2),⟨by show i+1<=25;omega,b1,by show bw s2<=mN (i+1);rw[HP];omega⟩,by show 50 - (i+1)<50 - i;omega,?_⟩;simp -implicitDefEqProofs [vq,ym,yo,yp,yq,h,hw,e1,e2,e3]
    by_cases g1:k=1
    ·subst g1;have e2:=zS s.aI hd;have b2:=Au s.aI;have b1:dI (⟨gY s.aI,s.ai,s.aG,s.next,s.seq⟩:Sh)=true:=HR (wF hd) (by have:=(nT h2).b;simp only;omega) (nT h2).n (nT h2).q (λb hb=>ff.1 (nT h2).bs b hb) (Gf.1 (nT h2).os);generalize gY s.aI=d2 at e2 b1 b2;try simp at e2
     refine⟨((c1,i+1),⟨d2,s.ai,s.aG,s.next,s.seq⟩),⟨by show i+1<=25;omega,b1,by show bW d2+wL bO s.ai+wL aW s.aG<=mN (i+1);rw[HP];omega⟩,by show 50 - (i+1)<50 - i;omega,?_⟩;simp -implicitDefEqProofs [vq,ym,yo,yp,yq,h,hw,e1,e2]
    by_cases g2:k=2
    ·subst g2;obtain⟨hc0,AQ,hp1⟩:=ju hd;obtain⟨c2,kp,hk,e2⟩:=aj7 c1 s.aI.pending.length (by omega);have e3:=Xz s.aI kp hd (by omega);have d1:=Ys kp hd;have d2:=Yt s.aI kp;have e4:=XJ (pW s.aI kp) (by omega);unfold Lx at e4;rw[aA d1] at e4;have b1:=aes d1;have b2:=aet (pW s.aI kp);generalize uG (pW s.aI kp)=s2 at e4 b1 b2;generalize pW s.aI kp=d3 at e3 e4 d2 b2;try simp at e2
     try simp at e3
     try simp at e4
     refine⟨((c2,i+1),s2),⟨by show i+1<=25;omega,b1,by show bw s2<=mN (i+1);rw[HP];omega⟩,by show 50 - (i+1)<50 - i;omega,?_⟩;simp -implicitDefEqProofs [vq,ym,yo,yp,yq,h,hw,e1,e2,e3,e4]
    ·obtain⟨c2,ob,hb,ht,e2⟩:=aj4 c1 i;have e3:=XG s ob (by omega) (by omega);rw[aA h2] at e3;have b1:=adI (o:=ob) h2;have b2:=adJ s ob;generalize (dI s && Bz s ob)=bb at e3;generalize uB s ob=s2 at e3 b1 b2;try simp at e2
     try simp at e3
     refine⟨((c2,i+1),s2),⟨by show i+1<=25;omega,b1,by show bw s2<=mN (i+1);rw[HP];omega⟩,by show 50 - (i+1)<50 - i;omega,?_⟩;simp -implicitDefEqProofs [vq,ym,yo,yp,yq,h,hw,e1,e2,e3,g0,g1,g2]
   ·left;refine⟨((c,i),s),⟨h1,h2,h3⟩,?_⟩;simp -implicitDefEqProofs [vq,ym,h])
  ((c0,0),qU) ⟨by simp,agF,by show bw qU<=mN 0;have:=agG;unfold mN;omega⟩
 simp only at h1 h2 h3;have hB:=TF h1;refine⟨c',s,h2,by omega,?_⟩;try simp[qU] at u2
 try simp[qU] at e
 rw[aq (b:=Hr) (rs:=_) (n:=1) rfl rfl];simp -implicitDefEqProofs [Hr,u1,u2,e]
end M
set_option maxHeartbeats 8000000
namespace M
open Go
variable [Lb]
def XB(d:bD)(at_:Int)(t:ag)(h:cS d=true)(hp:d.pending.length=16):ev LI TT 122 [.agg (cV .af d),.int .i64 at_,.str ⟨t.toArray⟩]=some (.aj [.agg (cV .own d),.bool false],[.dead,.dead,.dead]):=by
 rw[aq (b:=xN) (rs:=[.c 6 2 true 50,.t 7]) (n:=3) rfl rfl];obtain⟨h0,h1,h1'⟩:=ju h;have h2:=tS d (by omega);have h3:=Eg d (by omega) (by omega);rw[h] at h2;try simp at h2
 try simp at h3
 simp -implicitDefEqProofs [xN,h2,h3,hp,cD,rowAt];all_goals (repeat' split)<;>first|rfl|omega|(simp_all;done)|(simp_all;omega)|skip
def ae7{d:bD}{a:Int}{t:ag}(h:cS d=true)(ha:0<=a/\a<=19)(hp:d.pending.length<16):cS ⟨d.cells,d.pending++[⟨a,t⟩]⟩=true:=by
 obtain⟨h0,h1,h2⟩:=ju h;unfold cS at h⊢;simp only[av,aZ] at h⊢;refine⟨⟨ff.2 λw hw=>?_,h.1.2⟩,by simp;omega⟩;rcases dK.1 hw with hw|hw;·exact ff.1 h.1.1 w hw
 ·simp at hw;rw[hw];simpa [nM] using ha
@[irreducible] def mc(i:Nat):Nat:=200+50*i
def Eu(i:Nat):mc (i+1)=mc i+50:=by unfold mc;omega
def PK{i:Nat}(h:i<=22):mc i<=1300:=by unfold mc;omega
def Yv:cS ⟨List.replicate 20 [],[]⟩=true:=by decide
def Yw:bW ⟨List.replicate 20 [],[]⟩<=200:=by decide
def aj8(c:aY):∃(c':aY) (d:bD),cS d=true/\bW d<=2000/\ev LI TT 195 [.ptr .own (aL c)]=some (.agg (cV .own d),[.ptr .own (aL c')]):=by
 obtain⟨c0,N,n0,n1,u1⟩:=fR c 22 (by omega) (by omega);have u2:=OX
 obtain⟨⟨⟨c',i⟩,d⟩,⟨h1,h2,h3⟩,e⟩:=uE (xt:=0) (f:=ak (ev LI TT) (au TT) ve)
  (λ(g:(aY×Nat)×bD)=>[(0,.aB 100000 [] 0 0),(2,.ptr .own [.row .own 1 [],.row .own 2 []]),(3,.ptr .own (cV .own g.2)),(4,.int .i64 N),(5,.int .i64 g.1.2),(100000,.ptr .own (aL g.1.1))])
  (λg=>50 - g.1.2) (λg=>g.1.2<=22/\cS g.2=true/\bW g.2<=mc g.1.2)
  (λg=>[(0,.aB 100000 [] 0 0),(2,.ptr .own [.row .own 1 [],.row .own 2 []]),(3,.ptr .own (cV .own g.2)),(4,.int .i64 N),(5,.int .i64 g.1.2),(13,.bool false),(100000,.ptr .own (aL g.1.1))])
  (λg hg=>by
   obtain⟨⟨c,i⟩,d⟩:=g;obtain⟨h1,h2,h3⟩:=hg;simp only at h1 h2 h3;by_cases h:(i:Int)<N
   ·right;have hw:=bx i (by omega);have hB:=PK h1;obtain⟨q0,q1,q2⟩:=ju h2;obtain⟨c1,a,a0,a1,e1⟩:=fR c 20 (by omega) (by omega);obtain⟨c2,t,ht,e2⟩:=eT c1 [[],[97],[98],[99,99]] 4 (by simp) (by simp) (by simp);obtain⟨c3,b,e4⟩:=yZ c2 9 (by omega);simp at e2;by_cases hp:d.pending.length<16
    ·have e3:=Jl d a t h2 ⟨a0,by omega⟩ hp;have o1:=ae7 (t:=t) h2 ⟨a0,by omega⟩ hp;have o2:bW ⟨d.cells,d.pending++[⟨a,t⟩]⟩<=bW d+10:=by simp[bW,wL,dz];omega
     generalize (⟨d.cells,d.pending++[⟨a,t⟩]⟩:bD)=d2 at e3 o1 o2;try simp at e3
     cases b;·refine⟨((c3,i+1),d2),⟨by show i+1<=22;omega,o1,by show bW d2<=mc (i+1);rw[Eu];omega⟩,by show 50 - (i+1)<50 - i;omega,?_⟩;simp -implicitDefEqProofs [ve,xX,xY,xZ,yb,vm,yf,qR,s4,s5,vn,s6,vf,vg,x7,vh,x8,x9,sZ,vj,vk,ya,vl,yc,yd,ye,h,hw,e1,e2,e4,cK,cH,cJ,e3]
     ·have e5:=zS d2 o1;have o3:=wF o1;have o4:=Au d2;generalize gY d2=d3 at e5 o3 o4;try simp at e5
      refine⟨((c3,i+1),d3),⟨by show i+1<=22;omega,o3,by show bW d3<=mc (i+1);rw[Eu];omega⟩,by show 50 - (i+1)<50 - i;omega,?_⟩;simp -implicitDefEqProofs [ve,xX,xY,xZ,yb,vm,yf,qR,s4,s5,vn,s6,vf,vg,x7,vh,x8,x9,sZ,vj,vk,ya,vl,yc,yd,ye,h,hw,e1,e2,e4,cK,cH,cJ,e3,e5]
    ·have e3:=XB d a t h2 (by omega);try simp at e3
     cases b;·refine⟨((c3,i+1),d),⟨by show i+1<=22;omega,h2,by show bW d<=mc (i+1);rw[Eu];omega⟩,by show 50 - (i+1)<50 - i;omega,?_⟩;simp -implicitDefEqProofs [ve,xX,xY,xZ,yb,vm,yf,qR,s4,s5,vn,s6,vf,vg,x7,vh,x8,x9,sZ,vj,vk,ya,vl,yc,yd,ye,h,hw,e1,e2,e4,cK,cH,cJ,e3]
     ·have e5:=zS d h2;have o1:=wF h2;have o2:=Au d;generalize gY d=d2 at e5 o1 o2;try simp at e5
      refine⟨((c3,i+1),d2),⟨by show i+1<=22;omega,o1,by show bW d2<=mc (i+1);rw[Eu];omega⟩,by show 50 - (i+1)<50 - i;omega,?_⟩;simp -implicitDefEqProofs [ve,xX,xY,xZ,yb,vm,yf,qR,s4,s5,vn,s6,vf,vg,x7,vh,x8,x9,sZ,vj,vk,ya,vl,yc,yd,ye,h,hw,e1,e2,e4,cK,cH,cJ,e3,e5]
   ·left;refine⟨((c,i),d),⟨h1,h2,h3⟩,?_⟩;simp -implicitDefEqProofs [ve,xX,h])
  ((c0,0),⟨List.replicate 20 [],[]⟩) ⟨by simp,Yv,by show bW _<=mc 0;have:=Yw;unfold mc;omega⟩
 simp only at h1 h2 h3;have hB:=PK h1;refine⟨c',d,h2,by omega,?_⟩;try simp at u2
 try simp at e
 rw[aq (b:=G4) (rs:=_) (n:=1) rfl rfl];simp -implicitDefEqProofs [G4,u1,u2,e]
end M
set_option maxHeartbeats 8000000
namespace M
open Go
variable [Lb]
def aj6(c:aY):∃(c':aY) (d:bD),bW d<=5000/\(∀w∈d.pending,bI w.at_)/\ev LI TT 121 [.ptr .own (aL c)]=some (.agg (cV .own d),[.ptr .own (aL c')]):=by
 obtain⟨c1,d,hd,hw,u1⟩:=aj8 c;obtain⟨q0,q1,q2⟩:=ju hd;obtain⟨c2,k,k0,k1,u2⟩:=fR c1 15 (by omega) (by omega);have hb:∀w∈d.pending,bI w.at_:=λw hw=>by have:=q0 w hw;unfold bI;omega
 have dR:bW d=wL wS d.cells+wL dz d.pending:=rfl;try simp at u1
 by_cases g0:k=0
 ·subst g0;obtain⟨cs,ps⟩:=d;simp only at q1 q2 dR hb u1;refine⟨c2,⟨cs.tail,ps⟩,?_,hb,?_⟩
  ·show wL wS cs.tail+wL dz ps<=5000
   have:wL wS cs.tail<=wL wS cs:=by
    cases cs with
    |nil=>simp
    |cons a l=>simp[wL];omega
   omega
  have h1:1<=cs.length:=by omega
  have h1':(1:Int)<=cs.length:=by omega
  have ht:List.take cs.length (cs.map eS)=cs.map eS:=zc (by simp);have ht2:X.clean.bz (cs.map eS).tail=true:=by have:=Yj cs.tail;rwa [List.map_tail] at this
  rw[aq (b:=o7) (rs:=_) (n:=1) rfl rfl];simp -implicitDefEqProofs [o7,yg,yh,u1,u2,h1,h1',xx,ht,ht2]
 by_cases g1:k=1
 ·subst g1;obtain⟨c3,a,ha,u3⟩:=y8 c2 [-1,19,20] (by simp) (by simp);obtain⟨cs,ps⟩:=d;simp only at q1 q2 dR hb u1;simp at u3;have h8:(ps.length+1)*24<=140737488355328:=by omega
  refine⟨c3,⟨cs,ps++[⟨a,[]⟩]⟩,?_,λw hw=>?_,?_⟩;·show wL wS cs+wL dz (ps++[⟨a,[]⟩])<=5000;simp[wL,dz] at dR⊢;omega
  ·rcases dK.1 hw with hw|hw;·exact hb w hw
   ·simp at hw ha;rw[hw];unfold bI;simp only;omega
  rw[aq (b:=o7) (rs:=_) (n:=1) rfl rfl];simp -implicitDefEqProofs [o7,yg,yh,u1,u2,u3,cD,h8,cK,cH,cJ]
 by_cases g2:k=2
 ·subst g2;obtain⟨c3,v,v0,v1,u3⟩:=fR c2 2 (by omega) (by omega);obtain⟨n,rfl⟩:∃n:Nat,v=n:=⟨v.toNat,by omega⟩;have hw1:IntKind.i64.wrap (16+(n:Int))=((16+n:Nat):Int):=by rw[cy (by omega) (by omega)];omega
  obtain⟨cs,ps⟩:=d;simp only at q1 q2 dR hb u1;refine⟨c3,⟨cs,List.replicate (16+n) ⟨0,[]⟩⟩,?_,λw hw=>?_,?_⟩
  ·show wL wS cs+wL dz (List.replicate (16+n) ⟨0,[]⟩)<=5000;have:wL dz (List.replicate (16+n) ⟨0,[]⟩)<=40:=by simp[wL,dz];omega
   omega
  ·have:=(NG.1 hw).2;rw[this];unfold bI;simp
  rw[aq (b:=o7) (rs:=_) (n:=1) rfl rfl];simp -implicitDefEqProofs [o7,yg,yh,u1,u2,u3,hw1,cK,cH,cJ];have hz:(16+(n:Int)).toNat=16+n:=by omega
  refine⟨⟨by omega,by omega⟩,?_,hz⟩;rw[hz];have:=Yk (List.replicate (16+n) ⟨0,[]⟩);simpa using this
 ·refine⟨c2,d,by omega,hb,?_⟩;rw[aq (b:=o7) (rs:=_) (n:=1) rfl rfl];simp -implicitDefEqProofs [o7,yg,yh,u1,u2,g0,g1,g2]
end M
set_option maxHeartbeats 8000000
namespace M
open Go
variable [Lb]
def JB:∀(a b:List (List X)),X.clean.bz a=true->X.clean.bz b=true->X.clean.bz (a++b)=true
 |[],b,_,h=>h
 |x::a,b,h1,h2=>by simp only[X.clean.bz,av,e9] at h1⊢;exact⟨h1.1,JB a b h1.2 h2⟩
structure zz (R:List (List X)) (os:List Kp):Prop where
 cl:X.clean.bz R=true
 md:X.cv .af R=os.map (aP .af)
 len:R.length=os.length
 el:∀i (h:i<os.length),∃m:Md,(m=.own\/m=.sl)/\R[i]?=some (aP m os[i])
def xL(os:List Kp):zz (os.map (aP .own)) os:=⟨Pw os,Lu .af .own os,by simp,λi h=>⟨.own,.inl rfl,by simp[h]⟩⟩
def agz(k:Kp)(l:List Kp):zz (aP .sl k::(l.map (aP .own)++[aP .sl k])) (k::l++[k]):=by
 refine⟨?_,?_,by simp,λi h=>?_⟩;·have h1:=Yl [k];exact JB [aP .sl k] _ h1 (JB _ _ (Pw l) h1)
 ·have h1:=Lu .af .sl [k];have h2:=Lu .af .own l;simp only[bg,gQ,X.cv] at h1;rw[show aP .sl k::(l.map (aP .own)++[aP .sl k])=[aP .sl k]++(l.map (aP .own)++[aP .sl k]) from rfl,Sq,Sq,h2];simp only[X.cv,h1];simp
 ·cases i with
  |zero=>exact⟨.sl,.inr rfl,by simp⟩
  |succ i=>
   simp only[cO,fK,gS] at h;by_cases hi:i<l.length;·exact⟨.own,.inl rfl,by simp[mT,hi,List.getElem_append_left]⟩
   ·obtain rfl:i=l.length:=by simp at h;omega
    exact⟨.sl,.inr rfl,by simp⟩
def aka(c c1 c2:aY)(s:Sh)(h2:bw s<=1000000)(u1:ev LI TT 120 [.ptr .own (aL c)]=some (.agg (aO .own s),[.ptr .own (aL c1)]))(u2:ev LI TT 110 [.ptr .own (aL c1),.int .i64 20]=some (.int .i64 3,[.ptr .own (aL c2),.dead])):∃(R:List (List X)) (os:List Kp),zz R os/\wL bO os<=2000010/\ev LI TT 95 [.ptr .own (aL c)]=some (.agg [.row .own 1 (s.aI.cells.map eS),.row .own 2 (s.aI.pending.map eW),.row .own 9 R,.row .own 4 (s.aG.map cu),.int .i64 s.next,.int .i64 s.seq],[.ptr .own (aL c2)]):=by
 obtain⟨⟨cs,ps⟩,os,bs,nx,sq⟩:=s;simp only[bw] at h2;try simp at u1
 cases os with
 |nil=>refine⟨[],[],xL [],by simp[wL],?_⟩;rw[aq (b:=jQ) (rs:=_) (n:=1) rfl rfl];simp -implicitDefEqProofs [jQ,qS,u1,u2]
 |cons k l=>
  have h8:(l.length+1+1)*136<=140737488355328:=by have:=bp (w:=bO) (k::l);simp only[cO] at this;omega
  have h0:(0:Int)<(l.length:Int)+1:=by omega
  refine⟨_,_,agz k l,?_,?_⟩
  ·have h3:=pn (w:=bO) (l:=k::l) (a:=k) bE;rw[yU];have:wL bO [k]=1+bO k:=by simp[wL]
   omega
  rw[aq (b:=jQ) (rs:=_) (n:=1) rfl rfl];simp -implicitDefEqProofs [jQ,qS,u1,u2,cD,h8,h0,ghost,Av,l5,Aw,sL,X.pfx,Dc]
def aj9(c:aY):∃(c':aY) (s:Sh) (R:List (List X)),zz R s.ai/\bw s<=3100000/\ev LI TT 95 [.ptr .own (aL c)]=some (.agg [.row .own 1 (s.aI.cells.map eS),.row .own 2 (s.aI.pending.map eW),.row .own 9 R,.row .own 4 (s.aG.map cu),.int .i64 s.next,.int .i64 s.seq],[.ptr .own (aL c')]):=by
 obtain⟨c1,s,hs,hw,u1⟩:=akb c;obtain⟨c2,k,k0,k1,u2⟩:=fR c1 20 (by omega) (by omega);by_cases g3:k=3;·subst g3;obtain⟨R,os,h1,h2,e⟩:=aka c c1 c2 s hw u1 u2;refine⟨c2,⟨s.aI,os,s.aG,s.next,s.seq⟩,R,h1,?_,e⟩;simp only[bw] at hw⊢;omega
 have hab:=(nT hs).b;try simp at u1
 simp only[bw] at hw;by_cases g0:k=0;·subst g0;obtain⟨c3,n,hn,u3⟩:=y8 c2 [4,5,19,20] (by simp) (by simp);simp at u3;refine⟨c3,⟨s.aI,s.ai,s.aG,n,s.seq⟩,_,xL _,by simp only[bw];omega,?_⟩;rw[aq (b:=jQ) (rs:=_) (n:=1) rfl rfl];simp -implicitDefEqProofs [jQ,qS,u1,u2,u3,cK,cH,cJ]
 by_cases g1:k=1;·subst g1;obtain⟨c3,n,hn,u3⟩:=y8 c2 [0,1,100000,100001] (by simp) (by simp);simp at u3;refine⟨c3,⟨s.aI,s.ai,s.aG,s.next,n⟩,_,xL _,by simp only[bw];omega,?_⟩;rw[aq (b:=jQ) (rs:=_) (n:=1) rfl rfl];simp -implicitDefEqProofs [jQ,qS,u1,u2,u3,cK,cH,cJ]
 by_cases g2:k=2
 ·subst g2;obtain⟨c3,b,hb,u3⟩:=aj5 c2;try simp at u3
  have h8:(s.aG.length+1)*48<=140737488355328:=by omega
  refine⟨c3,⟨s.aI,s.ai,s.aG++[b],s.next,s.seq⟩,_,xL _,?_,?_⟩
  ·simp only[bw,yU];have:wL aW [b]=1+aW b:=by simp[wL]
   omega
  rw[aq (b:=jQ) (rs:=_) (n:=1) rfl rfl];simp -implicitDefEqProofs [jQ,qS,u1,u2,u3,cD,h8,cK,cH,cJ]
 by_cases g4:k=4
 ·subst g4;obtain⟨c3,d,hd,hp,u3⟩:=aj6 c2;try simp at u3
  refine⟨c3,⟨d,s.ai,s.aG,s.next,s.seq⟩,_,xL _,by simp only[bw];omega,?_⟩;rw[aq (b:=jQ) (rs:=_) (n:=1) rfl rfl];simp -implicitDefEqProofs [jQ,qS,u1,u2,u3,cK,cH,cJ]
 ·refine⟨c2,s,_,xL _,by simp only[bw];omega,?_⟩;rw[aq (b:=jQ) (rs:=_) (n:=1) rfl rfl];simp -implicitDefEqProofs [jQ,qS,u1,u2,g0,g1,g2,g3,g4,cK,cH,cJ]
end M
set_option maxHeartbeats 8000000
namespace M
open Go
variable [Fd]
def Xu(code:List UInt8):ev LI TT 8 [.row .af 1 (code.map eU)]=some (.bool (decide (1048576<code.length)),[.dead]):=by rw[aq (b:=FZ) (rs:=[.t 2]) (n:=1) rfl rfl];simp -implicitDefEqProofs [FZ];omega
def Yz(s:Sh)(q:Rq)(now:Int):(ou s q now=2/\mh (iB s q now).resp.fields (iB s q now).t now=true/\pg (iB s q now).names (iB s q now).values q.fields=true/\gG s.aG (iB s q now)=false/\(iB s q now).path=q.path/\q.method=1)\/(ou s q now=3/\dx (iB s q now)=true/\(mh (iB s q now).resp.fields (iB s q now).t now=false\/(fS q.fields).nc=true))\/((ou s q now=1\/ou s q now=4)/\(iB s q now).path=[]):=by
 unfold ou iB ng;by_cases ha:kE q=true;rotate_left;·right;right;rw[aC ha,aC ha];exact⟨.inl rfl,rfl⟩
 rw[aA ha,aA ha];cases hf:di s q with
 |none=>right;right;simp[bY]
 |some o=>
  obtain⟨hok,k,hk,rfl,hp⟩:=Qn hf;have ho:=TG hok hk;unfold ue at hp;simp only[av,aZ,n9] at hp;have hm:q.method=1:=by unfold kE at ha;simp only[av,aZ] at ha;exact ha.1.2
  simp only[q8,Option.isSome_some,dB];by_cases h1:(mh k.obj.resp.fields k.obj.t now && !(fS q.fields).nc)=true;·rw[aA h1];simp only[av,n9] at h1;exact .inl ⟨rfl,h1.1,hp.1.2,hp.2,hp.1.1,hm⟩
  ·rw[aC h1];refine .inr (.inl ⟨rfl,ho,?_⟩);by_cases hx:mh k.obj.resp.fields k.obj.t now=true;·right;simpa [hx] using h1
   ·left;simpa using hx
def aj3(code:List UInt8)(hl:code.length<=1048576):∃(s:Sh) (R:List (List X)) (q:Rq) (now:Int),zz R s.ai/\bw s<=3100000/\dh q<=4000000/\bI now/\∃ps,ev LI TT 33 [.row .sl 1 (code.map eU)]=some (.aj [.agg [.row .own 1 (s.aI.cells.map eS),.row .own 2 (s.aI.pending.map eW),.row .own 9 R,.row .own 4 (s.aG.map cu),.int .i64 s.next,.int .i64 s.seq],.agg (dw .own q),.int .i64 now],ps):=by
 obtain⟨c,hc⟩:=ake code hl;obtain⟨c1,s,R,hR,hs,u1⟩:=aj9 c;obtain⟨c2,⟨qm,qp,qf,qb⟩,hq,hm,u2⟩:=akg c1;try simp at u2
 have hlen:=hR.len;have hcl:=hR.cl;by_cases h0:R.length=0;·obtain⟨c3,now,hn,u3⟩:=Is c2;refine⟨s,R,⟨qm,qp,qf,qb⟩,now,hR,hs,by omega,hn,?_⟩;have h0':R=[]:=IQ h0;subst h0';rw[aq (b:=sR) (rs:=_) (n:=1) rfl rfl];simp -implicitDefEqProofs [sR,Ch,Ci,xO,Cj,Ck,hc,u1,u2,u3]
 obtain⟨c3,b,u4⟩:=yZ c2 2 (by omega);have h1:(0:Int)<R.length:=by omega
 have h1':0<R.length:=by omega
 cases b;·obtain⟨c4,now,hn,u3⟩:=Is c3;refine⟨s,R,⟨qm,qp,qf,qb⟩,now,hR,hs,by omega,hn,?_⟩;rw[aq (b:=sR) (rs:=_) (n:=1) rfl rfl];simp -implicitDefEqProofs [sR,Ch,Ci,xO,Cj,Ck,hc,u1,u2,u3,u4,h1,h1',hcl]
 ·obtain⟨c4,v,v0,v1,u5⟩:=fR c3 R.length h1 (by have:=bp (w:=bO) s.ai;simp only[bw] at hs;omega);obtain⟨i,rfl⟩:∃i:Nat,v=i:=⟨v.toNat,by omega⟩;obtain⟨c5,now,hn,u3⟩:=Is c4;have hi:i<R.length:=by omega
  obtain⟨m,hm2,he⟩:=hR.el i (by omega);obtain⟨_,he⟩:=aN.1 he;refine⟨s,R,⟨1,(s.ai[i]'(by omega)).obj.path,qf,qb⟩,now,hR,hs,?_,hn,?_⟩;·have h5:=ajZ (w:=bO) (l:=s.ai) (i:=i) (by omega);simp only[dh] at hq⊢;simp only[bw] at hs;simp only[bO,bP] at h5;omega
  rw[aq (b:=sR) (rs:=_) (n:=1) rfl rfl];simp -implicitDefEqProofs [sR,Ch,Ci,xO,Cj,Ck,hc,u1,u2,u3,u4,u5,h1,h1',hi,he,hcl]
def Yy(s:Sh)(q:Rq)(now:Int):bI (iB s q now).t/\bP (iB s q now)<=bw s:=by
 have h:=JW (s:=s) (q:=q);unfold iB;split;·exact h
 ·exact⟨by unfold bI bY;simp,by simp[bY,bP,bQ,wL]⟩
def am2(code:List UInt8)(k:code.length<=9223372036854775807/\∀b∈code,True):∃ps,ev LI TT 5 [.row .sl 1 (code.map eU)]=some (.bool true,ps):=by
 rw[aq (b:=qt) (rs:=[.t 2]) (n:=1) rfl rfl];have h1:=Xu code;by_cases hbig:1048576<code.length;·simp -implicitDefEqProofs [qt,h1,hbig]
 obtain⟨s,R,q,now,hR,hs,hq,hn,ps1,u1⟩:=aj3 code (by omega);have jL:=hR.md;have hcl:=hR.cl;have u3:=W5 s q now (by omega) (by omega) hn;have u4:=XA s q now (by omega) (by omega) hn;obtain⟨ht,how⟩:=Yy s q now;have hd:=Yz s q now;generalize ou s q now=kd at u3 u4 hd;generalize iB s q now=o at u3 u4 hd ht how;have amz:bP o=o.path.length+wL wS o.names+wL wS o.values+bQ o.resp:=rfl;have hrr:bQ o.resp=wL aF o.resp.fields+o.resp.body.length:=rfl;have Rx:dh q=q.path.length+wL aF q.fields+q.body.length:=rfl;have amA:=bp (w:=aF) q.fields;have hnl:=bp (w:=wS) o.names;have hvl:=bp (w:=wS) o.values;have u5:=Xc o (by omega);have u6:=Jm o (by omega);generalize ep o=ot at u5 u6;have v1:=OL o.resp.fields o.t now (by omega) ht hn;have v2:=OR o.names o.values q.fields (by omega) (by omega) (by omega);have v3:=OM s.aG o (by simp only[bw] at hs;omega) (by omega);have v4:=Ea o (by omega);have v5:=zP q.fields (by omega);try simp at u3
 try simp at u4
 try simp at u5
 try simp at u6
 try simp at v1
 try simp at v2
 try simp at v3
 try simp at v4
 rcases hd with ⟨rfl,a1,a2,a3,a4,a5⟩|⟨rfl,a1,a2⟩|⟨a1,a2⟩;·rw[a1] at v1;rw[a2] at v2;rw[a3] at v3;simp -implicitDefEqProofs [qt,h1,hbig,u1,u3,u4,u5,u6,v1,v2,v3,jL,hcl,eq_true a4,eq_true a5]
 ·rw[a1] at v4;generalize mh o.resp.fields o.t now=fb at v1 a2;generalize fS q.fields=cc at v5 a2;obtain⟨c1,c2,c3,c4,c5,c6⟩:=cc;simp only at a2;try simp at v5
  cases fb;·simp -implicitDefEqProofs [qt,h1,hbig,u1,u3,u4,u5,u6,v1,v4,jL,hcl]
  ·have a2:c2=true:=by simpa using a2
   subst a2;simp -implicitDefEqProofs [qt,h1,hbig,u1,u3,u4,u5,u6,v1,v4,v5,jL,hcl]
 ·rcases a1 with rfl|rfl;·simp -implicitDefEqProofs [qt,h1,hbig,u1,u3,u4,u5,u6,jL,hcl,eq_true a2]
  ·simp -implicitDefEqProofs [qt,h1,hbig,u1,u3,u4,u5,u6,jL,hcl,eq_true a2]
end M
