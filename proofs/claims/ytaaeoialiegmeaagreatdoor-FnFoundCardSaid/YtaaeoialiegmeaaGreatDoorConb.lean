/- What the functions come to in the machine; no conditions. -/
import Derived.Test.YtaaeoialiegmeaaGreatDoorCona
import Derived.Test.YtaaeoialiegmeaaGreatDoorMc
set_option linter.defProp false
set_option linter.unusedSectionVars false
set_option linter.unusedVariables false
set_option linter.unusedSimpArgs false
set_option maxHeartbeats 4000000
namespace M
open Go
variable [Lb]
def Vt{α:Type}(p:α->Bool)(a b:List α):bq p (a++b)=(bq p a && bq p b):=by
 induction a with
 |nil=>simp[bq]
 |cons x a ih=>simp[bq,ih,ME]
def KK{d:bD}{a:Int}(t:ag)(h:cO d=true)(ha:0<=a/\a<=19):cO (lG d a t)=true:=by
 obtain⟨h0,h1,h2⟩:=jl h;have hf:=vP h;unfold lG;split;·obtain⟨g0,g1,g2⟩:=jl hf;unfold cO;simp[g1,bq,nD,ha]
 ·rename_i hp;unfold cO at h⊢;simp only[aq,bn,fE,cG,gH,Vt] at h⊢;simp[bq,nD,ha] at h⊢;exact⟨h.1,by omega⟩
def yO(s:Sh)(b:Bn):Bool:=dP b && !decide (5<=(s.aF.length:Int)) && !decide (s.seq=100000)
def HY(s:Sh)(b:Bn):bD:=gP (lG s.aG s.aF.length (fJ s.seq (ia b)))
def Dw(s:Sh)(b:Bn):List Kp:=s.ai.filter λk=> !fL (s.aF++[b]) k.obj
def yP(s:Sh)(b:Bn):Sh:=⟨HY s b,Dw s b,s.aF++[b],s.next,s.seq+1⟩
def tj(s:Sh)(b:Bn):Sh:=if yO s b=true then yP s b else s
def VM(s:Sh)(b:Bn):bC (tj s b)<=bC s+aW b+2100:=by
 unfold tj;split
 ·have h1:=RS s.aG s.aF.length (fJ s.seq (ia b));have h2:=R6 s.seq (ia b);have h5:=zy (lG s.aG s.aF.length (fJ s.seq (ia b)));have h3:wL bH (Dw s b)<=wL bH s.ai:=Ti bH _ _;have h4:wL aW [b]=aW b+1:=by simp[wL];omega
  show bU (gP (lG s.aG s.aF.length (fJ s.seq (ia b))))+wL bH (Dw s b)+wL aW (s.aF++[b])<=bU s.aG+wL bH s.ai+wL aW s.aF+aW b+2100;rw[yf];omega
 ·omega
def VO(b:Bn)(hb:aW b<=1073741824):(ia b).length<=9223372036854775807:=by
 have h1:=A6 b.t;have h2:aW b=b.a.length+b.b.length:=rfl;have h3:(Hj b.kind).length<=10:=by unfold Hj;split<;>(try split)<;>decide
 unfold ia;split;·split<;>simp<;>omega
 ·simp
end M
set_option maxHeartbeats 4000000
namespace M
open Go
variable [Lb]
def Uh(s:Sh)(D:bD)(B:List Bn)(sq:Int)(hb:bC s<=1000000000)(hB:wL aW B<=1073741824):aH (aj (ev LI TT) (av TT) Bm) [(2,.ptr .own (aO .af s)),(4,.ptr .own [.row .own 1 [],.row .own 2 [],.row .own 9 [],.row .own 4 [],.int .i64 0,.int .i64 0]),(6,.ptr .own [.row .own 1 (D.cells.map eS),.row .own 2 (D.pending.map eW),.row .own 9 (([]).map (aM .own)),.row .own 4 (B.map bK),.int .i64 s.next,.int .i64 sq]),(7,.int .i64 0)]=some (.exit 0,[(2,.ptr .own (aO .af s)),(4,.ptr .own [.row .own 1 [],.row .own 2 [],.row .own 9 [],.row .own 4 [],.int .i64 0,.int .i64 0]),(6,.ptr .own [.row .own 1 (D.cells.map eS),.row .own 2 (D.pending.map eW),.row .own 9 ((((s.ai).flatMap (λk=>if (!fL B k.obj)=true then [k] else []))).map (aM .own)),.row .own 4 (B.map bK),.int .i64 s.next,.int .i64 sq]),(7,.int .i64 (s.ai).length),(58,.bool false)]):=by
 refine p9 (f:=aj (ev LI TT) (av TT) Bm) (s.ai) (λk=>if (!fL B k.obj)=true then [k] else []) (λi out=>[(2,.ptr .own (aO .af s)),(4,.ptr .own [.row .own 1 [],.row .own 2 [],.row .own 9 [],.row .own 4 [],.int .i64 0,.int .i64 0]),(6,.ptr .own [.row .own 1 (D.cells.map eS),.row .own 2 (D.pending.map eW),.row .own 9 ((out).map (aM .own)),.row .own 4 (B.map bK),.int .i64 s.next,.int .i64 sq]),(7,.int .i64 i)]) (λout=>[(2,.ptr .own (aO .af s)),(4,.ptr .own [.row .own 1 [],.row .own 2 [],.row .own 9 [],.row .own 4 [],.int .i64 0,.int .i64 0]),(6,.ptr .own [.row .own 1 (D.cells.map eS),.row .own 2 (D.pending.map eW),.row .own 9 ((out).map (aM .own)),.row .own 4 (B.map bK),.int .i64 s.next,.int .i64 sq]),(7,.int .i64 (s.ai).length),(58,.bool false)]) (λi b out hi hl hout=>?_) (λout hout=>?_)
 ·have hw:=bz i (by have dM:bC s=bU s.aG+wL bH s.ai+wL aW s.aF:=rfl;have:=bx (w:=bH) s.ai;omega);obtain⟨_,rfl⟩:=aN.1 hi;have dM:bC s=bU s.aG+wL bH s.ai+wL aW s.aF:=rfl;have hlk:=bx (w:=bH) s.ai;have hm:=sO (cI hl);have hlo:out.length<=i:=by rw[hout];exact DP _ (λb=>by split<;>simp) _ _
  have hlz:(out.length+1)*136<=140737488355328:=by omega
  have u1:=yU (s.ai[i]).obj (by omega);try simp at u1
  have u2:=Dd B (s.ai[i]).obj hB (by omega);try simp at u2
  cases g2:fL B (s.ai[i]).obj;all_goals
  simp -implicitDefEqProofs [Bm,K3,hl,hw,u1,u2,hlz,cE,g2]
 ·simp -implicitDefEqProofs [Bm,K3]
def Wk(s:Sh)(b:Bn)(hb:bC s<=1000000000)(ho:aW b<=10000000):ev LI TT 51 [.agg (aO .af s),.agg (bK b)]=some (.ak [.agg (aO .own (if de s=true then tj s b else GJ)),.bool ((de s && yO s b))],[.dead,.dead]):=by
 rw[ay (b:=sn) (rs:=[.c 4 6 true 54,.t 5]) (n:=2) rfl rfl];have u1:=yT s (by omega);try simp at u1
 have u2:=N1 s (by omega);try simp at u2
 cases g:de s;·simp -implicitDefEqProofs [sn,u1,g,GJ]
 rw[g] at u1;have A:=nI g;have hn:=A.n;have hq:=A.q;have Jl:=A.b;have dM:bC s=bU s.aG+wL bH s.ai+wL aW s.aF:=rfl;have l1:=bx (w:=bH) s.ai;have v1:=Db b (by omega);try simp at v1
 have hlz:(s.aF.length+1)*48<=140737488355328:=by omega
 have hw:=cJ (n:=s.seq+1) (by omega) (by omega);unfold tj yO;cases g1:dP b;·simp -implicitDefEqProofs [sn,u1,u2,v1,g,g1]
 by_cases g2:5<=(s.aF.length:Int)
 ·have jY:(s.aF.length:Int)=5:=by omega
  simp -implicitDefEqProofs [sn,u1,u2,v1,g,g1,jY]
 have jY:¬(s.aF.length:Int)=5:=by omega
 by_cases g3:s.seq=100000;·rw[g3] at u1 u2;simp -implicitDefEqProofs [sn,u1,u2,v1,g,g1,g2,jY,g3]
 have v2:=NL b (by omega);have v3:=Il s.seq (ia b) (VO b (by omega));have v4:=N2 s s.aF.length (fJ s.seq (ia b)) A.d (by omega);have v5:=yR (lG s.aG s.aF.length (fJ s.seq (ia b))) (KK _ A.d (by omega));have hwb:wL aW (s.aF++[b])<=1073741824:=by rw[yf];have:wL aW [b]=aW b+1:=(by simp[wL];omega);have e2:aW b<=10000000:=ho;omega
 have v6:=Uh s (HY s b) (s.aF++[b]) (s.seq+1) hb hwb;unfold Fm at v4;rw[Pp,show s.ai.filter (λk=> !fL (s.aF++[b]) k.obj)=Dw s b from rfl] at v6;rw[show gP (lG s.aG s.aF.length (fJ s.seq (ia b)))=HY s b from rfl] at v5;try simp at v2 v3 v4 v5 v6
 unfold yP;simp -implicitDefEqProofs [sn,u1,u2,v1,v2,v3,v4,v5,v6,g,g1,g2,jY,g3,hw,hlz,cE,K4,K5,K6,K7];all_goals (repeat' split)<;>first|rfl|omega|(simp_all;done)|(simp_all;omega)|skip
end M
set_option maxHeartbeats 4000000
namespace M
open Go
variable [Lb]
def wD(q:Rq)(r:cg):Bool:=wU q && fm r && decide (q.method=1) && decide (r.status=200) && !(pn q.fields).ns && !(pn r.fields).ns && !(pn r.fields).pr && (pn r.fields).ha && nA (dJ r.fields)
def r7(q:Rq)(r:cg)(t:Int):Ob:=⟨q.path,dJ r.fields,valuesOf (dJ r.fields) q.fields,r,t⟩
def ue(q:Rq)(r:cg)(t:Int):Bool:=wD q r && dn (r7 q r t)
def r8(q:Rq)(r:cg)(t:Int):Ob:=if ue q r t=true then r7 q r t else eX
def shC(c:Ca)(s:Sh):Ca:=⟨s,c.mU,c.now,c.seen,c.sent⟩
def Sy(c:Ca)(q:Rq)(r:cg):Ca:=⟨c.jq,c.mU,c.now,c.seen++[⟨q,r,c.now⟩],c.sent⟩
end M
set_option maxHeartbeats 4000000
namespace M
open Go
variable [Lb]
def GM{s:Sh}(h1:cO s.aG=true)(h2:s.aF.length<=5)(h3:5<=s.next/\s.next<=19)(h4:1<=s.seq/\s.seq<=100000)(h5:∀b∈s.aF,dP b=true)(h6:yG s.seq s.ai):de s=true:=by unfold de;simp only[aq,bn];exact⟨⟨⟨⟨⟨h1,by omega⟩,h3⟩,h4⟩,eZ.2 h5⟩,Fi.2 h6⟩
def yG.sub{S S':Int}{l l':List Kp}(h:yG S l)(hs:List.Sublist l' l)(hS:S<=S'):yG S' l':=
 ⟨λx hx=>by have:=h.k x (hs.subset hx);exact⟨this.1,this.2.1,this.2.2.1,by omega⟩,h.p.sublist hs⟩
def abZ{s:Sh}{o:Ob}(h:de s=true):de (tV s o)=true:=by
 unfold tV;split
 ·rename_i g;have A:=nI h;unfold AG at g;simp only[aq,oU,MJ] at g;obtain⟨⟨⟨g1,g2⟩,g3⟩,g4⟩:=g;have hn:=A.n;have hq:=A.q;have P:=Fi.1 A.os;refine GM (KK _ A.d (by omega)) (by have:=A.b;simp only[wm];omega) (Rr hn) (by simp only[wm];omega) (λb hb=>eZ.1 A.bs b hb) ?_;have hs:List.Sublist (pE s o) s.ai:=TN;refine⟨λx hx=>?_,?_⟩
  ·rcases dX.1 hx with hx|hx;·have:=P.k x (hs.subset hx);exact⟨this.1,this.2.1,this.2.2.1,by simp only[wm];omega⟩
   ·simp at hx;subst hx;exact⟨g1,hn,by simp only;omega,by simp only[wm];omega⟩
  ·show (pE s o++[_]).Pairwise _;rw[uX];refine⟨P.p.sublist hs,by simp,λx hx y hy=>?_⟩;simp at hy;subst hy;have h1:=P.k x (hs.subset hx);have h2:=(List.mem_filter.1 hx).2;simp at h2;exact⟨h2.1,h1.2.2.2⟩
 ·exact h
def VL{s:Sh}{b:Bn}(h:de s=true):de (tj s b)=true:=by
 unfold tj;split
 ·rename_i g;have A:=nI h;unfold yO at g;simp only[aq,oU,MJ] at g;obtain⟨⟨g1,g2⟩,g3⟩:=g;have hn:=A.n;have hq:=A.q;have hb:=A.b;have P:=Fi.1 A.os;refine GM (vP (KK _ A.d (by omega))) (by simp only[yP,fE,TV];omega) hn (by simp only[yP];omega) (λc hc=>?_) (P.sub TN (by simp only[yP];omega));rcases dX.1 hc with hc|hc;·exact eZ.1 A.bs c hc
  ·simp at hc;subst hc;exact g1
 ·exact h
def acP{d:bD}(h:cO d=true):de (ua d)=true:=by
 have B:=E7 d;have O:=AQ d;have hm:=O.m;have hsub:=wz (iK d);refine GM h B.2.1 (acW λk hk=>(E6 (hsub.subset hk)).1.a) (by simp only[ua];omega) B.1 ⟨λx hx=>?_,?_⟩;·have:=E6 (hsub.subset hx);exact⟨this.1.o,this.1.a,this.1.s.1,by have:=this.2;simp only[ua];omega⟩
 ·have h1:(iK d).Pairwise λx y=>x.at_≠y.at_:=((GP Kp.seq (kL d).1).pairwise_iff λ{x y} h e=>h e.symm).2 O.d;have h2:(iK d).Pairwise λx y=>x.seq<=y.seq:=ae6 Kp.seq (kL d).1;have h3:=Ke (iK d);exact((h1.sublist hsub).and ((h2.sublist hsub).and h3)).imp λ⟨a,b,c⟩=>⟨a,by omega⟩
structure o6 (c:Ca):Prop where
 s:de c.jq=true
 n:0<=c.now/\c.now<=1000000
 e:c.seen.length<=1500
 t:c.sent.length<=1500
 f:c.mU.length<=5
 q:∀x∈c.mU,wU x.q=true/\(1<=x.who.length/\x.who.length<=5)/\(x.Ec=true->dn x.old=true)
 p:c.mU.Pairwise λx y=>Vs x.q y.q=false
end M
set_option maxHeartbeats 4000000
namespace M
open Go
variable [Lb]
def o6.sent{c:Ca}(h:o6 c){l:List Rp}(hl:c.sent.length+l.length<=1500):o6 ⟨c.jq,c.mU,c.now,c.seen,c.sent++l⟩:=
 ⟨h.s,h.n,h.e,by simp;omega,h.f,h.q,h.p⟩
def o6.jq{c:Ca}(h:o6 c){s:Sh}(hs:de s=true):o6 (shC c s):=⟨hs,h.n,h.e,h.t,h.f,h.q,h.p⟩
def o6.seen{c:Ca}(h:o6 c){q:Rq}{r:cg}(hl:c.seen.length<1500):o6 (Sy c q r):=⟨h.s,h.n,by simp[Sy];omega,h.t,h.f,h.q,h.p⟩
end M
set_option maxHeartbeats 4000000
namespace M
open Go
variable [Lb]
end M
set_option maxHeartbeats 4000000
namespace M
open Go
variable [Fd]
end M
set_option maxHeartbeats 8000000
namespace M
open Go
variable [Fd]
end M
set_option maxHeartbeats 8000000
namespace M
open Go
variable [Fd]
end M
set_option maxHeartbeats 8000000
namespace M
open Go
variable [Fd]
end M
set_option maxHeartbeats 8000000
namespace M
open Go
variable [Fd]
end M
set_option maxHeartbeats 8000000
namespace M
open Go
variable [Lb]
def Te{fs:List aE}(hb:wL aJ fs<=1000000000):(dJ fs).length<=1073741824/\∀w∈dJ fs,w.length<=1073741824:=by have h0:=Hg fs;refine⟨by omega,λw hw=>?_⟩;unfold dJ at hw;obtain⟨x,hx,rfl⟩:=aU.1 hw;have h1:=Cv _ x hx;have h2:=tH fs ji;simp only[cH,dO];omega
def Wt(q:Rq)(r:cg)(hq:eV q<=1000000000)(hr:ct r<=1000000000):ev LI TT 240 [.agg (dw .af q),.agg (jv .af r)]=some (.bool (wD q r),[.dead,.dead]):=by
 rw[ay (b:=mw) (rs:=[.t 4]) (n:=2) rfl rfl];have fH:ct r=wL aJ r.fields+r.body.length:=rfl;have Er:eV q=q.path.length+wL aJ q.fields+q.body.length:=rfl;have V:=Te (fs:=r.fields) (by omega);unfold wD;have u1:=Wx q (by omega);try simp at u1
 have u2:=Im r (by omega);try simp at u2
 have u3:=NM r.fields (by omega);try simp at u3
 have u4:=NM q.fields (by omega);try simp at u4
 have u5:=Df r.fields (by omega);try simp at u5
 have u6:=N5 (dJ r.fields) V.1 V.2;try simp at u6
 rw[show (bq eu (dJ r.fields) && decide (((dJ r.fields).length:Int)<=4))=nA (dJ r.fields) from rfl] at u6;generalize nA (dJ r.fields)=b6 at u6⊢;generalize dJ r.fields=W at u5 u6;generalize pn r.fields=c1 at u3⊢;generalize pn q.fields=c2 at u4⊢;generalize fm r=b2 at u2⊢;generalize wU q=b1 at u1⊢;obtain⟨n1,n2,n3,n4,n5,n6⟩:=c1;obtain⟨m1,m2,m3,m4,m5,m6⟩:=c2;simp only at u3 u4;cases b1;·simp -implicitDefEqProofs [mw,u1]
 cases b2;·simp -implicitDefEqProofs [mw,u1,u2]
 by_cases g1:q.method=1;rotate_left;·simp -implicitDefEqProofs [mw,u1,u2,g1]
 rw[g1] at u1;by_cases g2:r.status=200;rotate_left;·simp -implicitDefEqProofs [mw,u1,u2,g1,g2]
 rw[g2] at u2;cases m1;rotate_left;·simp -implicitDefEqProofs [mw,sw,uo,uq,sx,ur,uu,uv,u1,u2,u3,u4,g1,g2]
 cases n1;rotate_left;·simp -implicitDefEqProofs [mw,sw,uo,uq,sx,ur,uu,uv,u1,u2,u3,u4,g1,g2]
 cases n3;rotate_left;·simp -implicitDefEqProofs [mw,sw,uo,uq,sx,ur,uu,uv,u1,u2,u3,u4,g1,g2]
 cases n5;·simp -implicitDefEqProofs [mw,sw,uo,uq,sx,ur,uu,uv,u1,u2,u3,u4,g1,g2]
 simp -implicitDefEqProofs [mw,u1,u2,u3,u4,u5,u6,g1,g2,sw,uo,uq,sx,ur,uu,uv];all_goals (repeat' split)<;>first|rfl|omega|(simp_all;done)|(simp_all;omega)|skip
def acU{l:List ag}(h:nA l=true):l.length<=4:=by unfold nA at h;simp only[aq,bn] at h;omega
def ahT(fs:List aE)(n:ag):(nM fs n).length<=wL aJ fs+1:=by
 have h:=tH fs n;unfold nM;cases hg:dR fs n with
 |none=>simp
 |some x=>rw[hg] at h;simp at h⊢;omega
def ac4{q:Rq}{r:cg}(t:Int)(hm:wD q r=true)(hq:eV q<=100000000)(hr:ct r<=100000000):cr (r7 q r t)<=1073741824:=by
 unfold wD at hm;simp only[aq] at hm;have hr2:=KS hm.1.1.1.1.1.1.1.2;have hn:=acU hm.2;have fH:ct r=wL aJ r.fields+r.body.length:=rfl;have Er:eV q=q.path.length+wL aJ q.fields+q.body.length:=rfl;have h1:=Td r.fields;have h2:wL aJ r.fields+1<=801:=by omega
 have h3:=Nat.mul_le_mul h2 h2;have h4:wL wS (valuesOf (dJ r.fields) q.fields)<=4*(wL aJ q.fields+1+1):=sP (λw hw=>by unfold valuesOf at hw;obtain⟨n,_,rfl⟩:=aU.1 hw;exact ahT q.fields n) (by rw[Mm];exact hn)
 have e:cr (r7 q r t)=q.path.length+wL wS (dJ r.fields)+wL wS (valuesOf (dJ r.fields) q.fields)+ct r:=rfl;omega
def Wv(q:Rq)(r:cg)(t:Int)(hq:eV q<=100000000)(hr:ct r<=100000000):ev LI TT 200 [.agg (dw .af q),.agg (jv .af r),.int .i64 t]=some (.ak [.agg (aS .own (r8 q r t)),.bool (ue q r t)],[.dead,.dead,.dead]):=by
 rw[ay (b:=xe) (rs:=[.c 6 7 true 31,.t 7]) (n:=3) rfl rfl];have fH:ct r=wL aJ r.fields+r.body.length:=rfl;have Er:eV q=q.path.length+wL aJ q.fields+q.body.length:=rfl;have V:=Te (fs:=r.fields) (by omega);have oc:=bx (w:=aJ) q.fields;have vT:=bx (w:=aJ) r.fields;have u1:=Wt q r (by omega) (by omega);try simp at u1
 have u2:=Df r.fields (by omega);try simp at u2
 have u3:=N6 r (by omega);try simp at u3
 have u4:=NY (dJ r.fields) q.fields V.1 (by omega);try simp at u4
 unfold r8 ue;cases g1:wD q r<;>rw[g1] at u1;·simp -implicitDefEqProofs [xe,Bz,BA,BB,u1,eX]
 have u5:=yS (r7 q r t) (ac4 t g1 hq hr);cases g2:dn (r7 q r t)<;>rw[g2] at u5<;>simp[r7] at u5;·simp -implicitDefEqProofs [xe,Bz,BA,BB,u1,u2,u3,u4,u5,eX]
 simp -implicitDefEqProofs [xe,u1,u2,u3,u4,r7,Bz,BA,BB];all_goals (repeat' split)<;>first|rfl|omega|(simp_all;done)|(simp_all;omega)|skip
def ac8{q:Rq}{r:cg}{t:Int}(h:ue q r t=true):cr (r8 q r t)<=1300:=by unfold r8;rw[az h];unfold ue at h;simp only[aq] at h;exact A8 h.2
def ac7{q:Rq}{r:cg}{t:Int}(h:ue q r t=true):(r8 q r t).t=t:=by unfold r8;rw[az h];rfl
end M
set_option maxHeartbeats 8000000
namespace M
open Go
variable [Lb]
def acq{xt:Nat}{γ δ:Type}{f:ah->cB}(st:γ->ah)(μ:γ->Nat)(Inv:γ->Prop)(E:γ->ah)(R:δ->ah)(s8:δ->Prop)
  (h:∀g,Inv g->(∃g',Inv g'/\f (st g)=some (.exit xt,E g'))\/(∃d,s8 d/\f (st g)=some (.ret,R d))\/∃g',Inv g'/\μ g'<μ g/\f (st g)=some (.normal,st g'))(g:γ)(hg:Inv g):(∃g',Inv g'/\aH f (st g)=some (.exit xt,E g'))\/∃d,s8 d/\aH f (st g)=some (.ret,R d):=by
 suffices H:∀n g,μ g=n->Inv g->(∃g',Inv g'/\aH f (st g)=some (.exit xt,E g'))\/∃d,s8 d/\aH f (st g)=some (.ret,R d) from H _ g rfl hg
 intro n;induction n using Nat.strongRecOn with
 |ind n ih=>
  intro g hn hI;rcases h g hI with ⟨g',h1,h2⟩|⟨d,h1,h2⟩|⟨g',h1,h2,h3⟩;·exact .inl ⟨g',h1,by rw[dH,h2];rfl⟩
  ·exact .inr ⟨d,h1,by rw[dH,h2];rfl⟩
  ·rw[dH,h3];exact ih _ (by omega) g' rfl h1
def Tg{fs:List aE}{n:Nat}(h:wL aJ fs<=n):fs.length<=n:=iT (bx fs) h
def ah3(c:bp)(t:Int):∃(c':bp) (o:Ob),cr o<=2000/\o.t=t/\ev LI TT 125 [.ptr .own (aR c),.int .i64 t]=some (.agg (aS .own o),[.ptr .own (aR c'),.dead]):=by
 have H:=acq (xt:=0) (f:=aj (ev LI TT) (av TT) BQ)
  (λ(g:bp×Nat)=>[(0,.aB 100000 [] 0 0),(1,.int .i64 t),(4,.ptr .own [.str ⟨#[]⟩,.row .own 1 [],.row .own 1 [],.int .i64 0,.row .own 2 [],.str ⟨#[]⟩,.int .i64 0]),(5,.int .i64 g.2),(100000,.ptr .own (aR g.1))])
  (λg=>20 - g.2) (λg=>g.2<=4)
  (λg=>[(0,.aB 100000 [] 0 0),(1,.int .i64 t),(4,.ptr .own [.str ⟨#[]⟩,.row .own 1 [],.row .own 1 [],.int .i64 0,.row .own 2 [],.str ⟨#[]⟩,.int .i64 0]),(5,.int .i64 g.2),(11,.bool false),(100000,.ptr .own (aR g.1))])
  (λ(d:bp×Ob)=>[(4,.ptr .own (aS .own d.2)),(100000,.ptr .own (aR d.1))])
  (λd=>cr d.2<=2000/\d.2.t=t)
  (λg hg=>by
   obtain⟨c,i⟩:=g;simp only at hg;by_cases h:(i:Int)<4
   ·right;have hw:=bz i (by omega);obtain⟨c1,⟨st,fs,bd⟩,hr,hst,e1⟩:=aih c;simp only[ct] at hr;have hfl:=Tg (n:=2000) (fs:=fs) (by omega);have e2:=NP fs [99,97,99,104,101,45,99,111,110,116,114,111,108] (by omega);have d1:=OL fs [99,97,99,104,101,45,99,111,110,116,114,111,108];have d2:=Xl fs [99,97,99,104,101,45,99,111,110,116,114,111,108];obtain⟨c2,v,hv,e3⟩:=fy c1 [[109,97,120,45,97,103,101,61,53],[109,97,120,45,97,103,101,61,50,48]] 30 (by simp) (by simp) (by simp);generalize ri fs [99,97,99,104,101,45,99,111,110,116,114,111,108]=DS at e2 d1 d2;have e4:=NT DS [99,97,99,104,101,45,99,111,110,116,114,111,108] v (by omega);have d3:=RW DS [99,97,99,104,101,45,99,111,110,116,114,111,108] v;have d4:=aeh DS [99,97,99,104,101,45,99,111,110,116,114,111,108] v;generalize sg DS [99,97,99,104,101,45,99,111,110,116,114,111,108] v=DU at e4 d3 d4;obtain⟨c3,⟨m,p,qf,qb⟩,hq,hm,e5⟩:=Ts c2;simp only[eV] at hq;have hql:=Tg (n:=2000) (fs:=qf) (by omega);have e6:=NP qf [99,97,99,104,101,45,99,111,110,116,114,111,108] (by omega);have d5:=OL qf [99,97,99,104,101,45,99,111,110,116,114,111,108];generalize ri qf [99,97,99,104,101,45,99,111,110,116,114,111,108]=Fo at e6 d5;have hdl:([99,97,99,104,101,45,99,111,110,116,114,111,108]:ag).length=13:=rfl;have e7:=Wv ⟨1,p,Fo,[]⟩ ⟨200,DU,bd⟩ t (by simp only[eV,gH];omega) (by simp only[ct];omega);simp at e3;try simp at e1
    try simp at e2
    try simp at e4
    try simp at e5
    try simp at e6
    cases ho:ue ⟨1,p,Fo,[]⟩ ⟨200,DU,bd⟩ t
    ·rw[ho] at e7;generalize r8 ⟨1,p,Fo,[]⟩ ⟨200,DU,bd⟩ t=ob at e7;try simp at e7
     right;refine⟨(c3,i+1),by simp only;omega,by simp only;omega,?_⟩;simp -implicitDefEqProofs [BQ,FX,e1,e2,e3,e4,e5,e6,e7,h,hw,cX,cP,cV]
    ·rw[ho] at e7;have w1:=ac8 ho;have w2:=ac7 ho;generalize r8 ⟨1,p,Fo,[]⟩ ⟨200,DU,bd⟩ t=ob at e7 w1 w2;try simp at e7
     left;refine⟨(c3,ob),⟨by simp only;omega,by simp only;exact w2⟩,?_⟩;simp -implicitDefEqProofs [BQ,FX,e1,e2,e3,e4,e5,e6,e7,h,hw,cX,cP,cV]
   ·left;refine⟨(c,i),hg,?_⟩;simp -implicitDefEqProofs [BQ,FX,h])
  (c,0) (by simp)
 rcases H with ⟨⟨c',i⟩,h1,e⟩|⟨⟨c',ob⟩,⟨h1,h2⟩,e⟩;·refine⟨c',⟨[47,97],[],[],⟨200,[],[]⟩,t⟩,by simp[cr,ct,wL],rfl,?_⟩;simp at e;rw[ay (b:=xj) (rs:=_) (n:=2) rfl rfl];simp -implicitDefEqProofs [xj,e,cX,cP,cV]
 ·refine⟨c',ob,h1,h2,?_⟩;simp at e;rw[ay (b:=xj) (rs:=_) (n:=2) rfl rfl];simp -implicitDefEqProofs [xj,e]
end M
set_option maxHeartbeats 8000000
namespace M
open Go
variable [Lb]
def ah6(c:bp)(n:Nat)(hn:n<=1000000):∃(c':bp) (l:List Bool),l.length<=n+2/\ev LI TT 194 [.ptr .own (aR c),.int .i64 n]=some (.row .own 1 (l.map eB),[.ptr .own (aR c'),.dead]):=by
 obtain⟨⟨⟨c',i⟩,out⟩,⟨h1,h2⟩,e⟩:=AP (xt:=0) (f:=aj (ev LI TT) (av TT) F2)
  (λ(g:(bp×Nat)×List Bool)=>[(0,.aB 100000 [] 0 0),(1,.int .i64 n),(5,.row .own 1 (g.2.map eB)),(6,.int .i64 g.1.2),(100000,.ptr .own (aR g.1.1))])
  (λg=>n+20 - g.1.2) (λg=>g.2.length<=g.1.2/\g.1.2<=n+2)
  (λg=>[(0,.aB 100000 [] 0 0),(1,.int .i64 n),(5,.row .own 1 (g.2.map eB)),(6,.int .i64 g.1.2),(14,.bool false),(100000,.ptr .own (aR g.1.1))])
  (λg hg=>by
   obtain⟨⟨c,i⟩,out⟩:=g;obtain⟨h1,h2⟩:=hg;simp only at h1 h2;obtain⟨c1,v,v0,v1,e1⟩:=jI c 3 (by omega) (by omega);have hw1:IntKind.i64.wrap ((n:Int)+v)=n+v:=cJ (by omega) (by omega);have fH:IntKind.i64.wrap ((n:Int)+v - 1)=n+v - 1:=cJ (by omega) (by omega);by_cases h:(i:Int)<n+v - 1
   ·right;have hw:=bz i (by omega);obtain⟨c2,b,e2⟩:=Cw c1 2 (by omega);have h8:out.length+1<=140737488355328:=by omega
    refine⟨((c2,i+1),out++[b]),⟨by simp;omega,by simp only;omega⟩,by simp only;omega,?_⟩;simp -implicitDefEqProofs [F2,Lw,e1,e2,h,hw,hw1,fH,cE,h8,cX,cP,cV]
   ·left;refine⟨((c1,i),out),⟨h1,h2⟩,?_⟩;simp -implicitDefEqProofs [F2,Lw,e1,h,hw1,fH])
  ((c,0),[]) ⟨by simp,by simp⟩
 simp only at h1 h2;refine⟨c',out,by omega,?_⟩;simp at e;rw[ay (b:=F3) (rs:=_) (n:=2) rfl rfl];simp -implicitDefEqProofs [F3,e]
@[irreducible] def mD(i:Nat):Nat:=1000+30000*i
def GK(i:Nat):mD (i+1)=mD i+30000:=by unfold mD;omega
def SE{i:Nat}(h:i<=25):mD i<=751000:=by unfold mD;omega
def SF:de kO=true:=by decide+kernel
def SG:bC kO<=1000:=by decide+kernel
def aia(c:bp):∃(c':bp) (s:Sh),de s=true/\bC s<=1000000/\ev LI TT 120 [.ptr .own (aR c)]=some (.agg (aO .own s),[.ptr .own (aR c')]):=by
 obtain⟨c0,N,n0,n1,u1⟩:=jI c 25 (by omega) (by omega);have u2:=NW
 obtain⟨⟨⟨c',i⟩,s⟩,⟨h1,h2,h3⟩,e⟩:=AP (xt:=0) (f:=aj (ev LI TT) (av TT) uN)
  (λ(g:(bp×Nat)×Sh)=>[(0,.aB 100000 [] 0 0),(2,.ptr .own [.row .own 1 [],.row .own 2 [],.row .own 9 [],.row .own 4 [],.int .i64 0,.int .i64 0]),(3,.ptr .own (aO .own g.2)),(4,.int .i64 N),(5,.int .i64 g.1.2),(100000,.ptr .own (aR g.1.1))])
  (λg=>50 - g.1.2) (λg=>g.1.2<=25/\de g.2=true/\bC g.2<=mD g.1.2)
  (λg=>[(0,.aB 100000 [] 0 0),(2,.ptr .own [.row .own 1 [],.row .own 2 [],.row .own 9 [],.row .own 4 [],.int .i64 0,.int .i64 0]),(3,.ptr .own (aO .own g.2)),(4,.int .i64 N),(5,.int .i64 g.1.2),(11,.bool false),(100000,.ptr .own (aR g.1.1))])
  (λg hg=>by
   obtain⟨⟨c,i⟩,s⟩:=g;obtain⟨h1,h2,h3⟩:=hg;simp only at h1 h2 h3;by_cases h:(i:Int)<N
   ·right;have hw:=bz i (by omega);have hB:=SE h1;have hd:=(nI h2).d;have dM:bC s=bU s.aG+wL bH s.ai+wL aW s.aF:=rfl;obtain⟨c1,k,k0,k1,e1⟩:=jI c 12 (by omega) (by omega);by_cases g0:k=0
    ·subst g0;obtain⟨c2,b,hb,e2⟩:=Tp c1 i;have e3:=Wk s b (by omega) (by omega);rw[az h2] at e3;have b1:=VL (b:=b) h2;have b2:=VM s b;generalize (de s && yO s b)=bb at e3;generalize tj s b=s2 at e3 b1 b2;try simp at e2
     try simp at e3
     refine⟨((c2,i+1),s2),⟨by show i+1<=25;omega,b1,by show bC s2<=mD (i+1);rw[GK];omega⟩,by show 50 - (i+1)<50 - i;omega,?_⟩;simp -implicitDefEqProofs [uN,xG,xH,xI,xJ,h,hw,e1,e2,e3]
    by_cases g1:k=1
    ·subst g1;have e2:=yR s.aG hd;have b2:=zy s.aG;have b1:de (⟨gP s.aG,s.ai,s.aF,s.next,s.seq⟩:Sh)=true:=GM (vP hd) (by have:=(nI h2).b;simp only;omega) (nI h2).n (nI h2).q (λb hb=>eZ.1 (nI h2).bs b hb) (Fi.1 (nI h2).os);generalize gP s.aG=d2 at e2 b1 b2;try simp at e2
     refine⟨((c1,i+1),⟨d2,s.ai,s.aF,s.next,s.seq⟩),⟨by show i+1<=25;omega,b1,by show bU d2+wL bH s.ai+wL aW s.aF<=mD (i+1);rw[GK];omega⟩,by show 50 - (i+1)<50 - i;omega,?_⟩;simp -implicitDefEqProofs [uN,xG,xH,xI,xJ,h,hw,e1,e2]
    by_cases g2:k=2
    ·subst g2;obtain⟨hc0,zV,hp1⟩:=jl hd;obtain⟨c2,kp,hk,e2⟩:=ah6 c1 s.aG.pending.length (by omega);have e3:=Wm s.aG kp hd (by omega);have d1:=Xf kp hd;have d2:=Xg s.aG kp;have e4:=Wu (pz s.aG kp) (by omega);unfold Kr at e4;rw[az d1] at e4;have b1:=acP d1;have b2:=acQ (pz s.aG kp);generalize ua (pz s.aG kp)=s2 at e4 b1 b2;generalize pz s.aG kp=d3 at e3 e4 d2 b2;try simp at e2
     try simp at e3
     try simp at e4
     refine⟨((c2,i+1),s2),⟨by show i+1<=25;omega,b1,by show bC s2<=mD (i+1);rw[GK];omega⟩,by show 50 - (i+1)<50 - i;omega,?_⟩;simp -implicitDefEqProofs [uN,xG,xH,xI,xJ,h,hw,e1,e2,e3,e4]
    ·obtain⟨c2,ob,hb,ht,e2⟩:=ah3 c1 i;have e3:=Ws s ob (by omega) (by omega);rw[az h2] at e3;have b1:=abZ (o:=ob) h2;have b2:=ab0 s ob;generalize (de s && AG s ob)=bb at e3;generalize tV s ob=s2 at e3 b1 b2;try simp at e2
     try simp at e3
     refine⟨((c2,i+1),s2),⟨by show i+1<=25;omega,b1,by show bC s2<=mD (i+1);rw[GK];omega⟩,by show 50 - (i+1)<50 - i;omega,?_⟩;simp -implicitDefEqProofs [uN,xG,xH,xI,xJ,h,hw,e1,e2,e3,g0,g1,g2]
   ·left;refine⟨((c,i),s),⟨h1,h2,h3⟩,?_⟩;simp -implicitDefEqProofs [uN,xG,h])
  ((c0,0),kO) ⟨by simp,SF,by show bC kO<=mD 0;have:=SG;unfold mD;omega⟩
 simp only at h1 h2 h3;have hB:=SE h1;refine⟨c',s,h2,by omega,?_⟩;try simp[kO] at u2
 try simp[kO] at e
 rw[ay (b:=Gk) (rs:=_) (n:=1) rfl rfl];simp -implicitDefEqProofs [Gk,u1,u2,e]
end M
set_option maxHeartbeats 8000000
namespace M
open Go
variable [Lb]
def Wn(d:bD)(at_:Int)(t:ag)(h:cO d=true)(hp:d.pending.length=16):ev LI TT 122 [.agg (cL .af d),.int .i64 at_,.str ⟨t.toArray⟩]=some (.ak [.agg (cL .own d),.bool false],[.dead,.dead,.dead]):=by
 rw[ay (b:=wZ) (rs:=[.c 6 2 true 50,.t 7]) (n:=3) rfl rfl];obtain⟨h0,h1,h1'⟩:=jl h;have h2:=tq d (by omega);have h3:=Dh d (by omega) (by omega);rw[h] at h2;try simp at h2
 try simp at h3
 simp -implicitDefEqProofs [wZ,h2,h3,hp,cE,rowAt];all_goals (repeat' split)<;>first|rfl|omega|(simp_all;done)|(simp_all;omega)|skip
def adq{d:bD}{a:Int}{t:ag}(h:cO d=true)(ha:0<=a/\a<=19)(hp:d.pending.length<16):cO ⟨d.cells,d.pending++[⟨a,t⟩]⟩=true:=by
 obtain⟨h0,h1,h2⟩:=jl h;unfold cO at h⊢;simp only[aq,bn] at h⊢;refine⟨⟨eZ.2 λw hw=>?_,h.1.2⟩,by simp;omega⟩;rcases dX.1 hw with hw|hw;·exact eZ.1 h.1.1 w hw
 ·simp at hw;rw[hw];simpa [nD] using ha
@[irreducible] def lT(i:Nat):Nat:=200+50*i
def Dv(i:Nat):lT (i+1)=lT i+50:=by unfold lT;omega
def OJ{i:Nat}(h:i<=22):lT i<=1300:=by unfold lT;omega
def Xh:cO ⟨List.replicate 20 [],[]⟩=true:=by decide
def Xi:bU ⟨List.replicate 20 [],[]⟩<=200:=by decide
def ah7(c:bp):∃(c':bp) (d:bD),cO d=true/\bU d<=2000/\ev LI TT 195 [.ptr .own (aR c)]=some (.agg (cL .own d),[.ptr .own (aR c')]):=by
 obtain⟨c0,N,n0,n1,u1⟩:=jI c 22 (by omega) (by omega);have u2:=NO
 obtain⟨⟨⟨c',i⟩,d⟩,⟨h1,h2,h3⟩,e⟩:=AP (xt:=0) (f:=aj (ev LI TT) (av TT) uD)
  (λ(g:(bp×Nat)×bD)=>[(0,.aB 100000 [] 0 0),(2,.ptr .own [.row .own 1 [],.row .own 2 []]),(3,.ptr .own (cL .own g.2)),(4,.int .i64 N),(5,.int .i64 g.1.2),(100000,.ptr .own (aR g.1.1))])
  (λg=>50 - g.1.2) (λg=>g.1.2<=22/\cO g.2=true/\bU g.2<=lT g.1.2)
  (λg=>[(0,.aB 100000 [] 0 0),(2,.ptr .own [.row .own 1 [],.row .own 2 []]),(3,.ptr .own (cL .own g.2)),(4,.int .i64 N),(5,.int .i64 g.1.2),(13,.bool false),(100000,.ptr .own (aR g.1.1))])
  (λg hg=>by
   obtain⟨⟨c,i⟩,d⟩:=g;obtain⟨h1,h2,h3⟩:=hg;simp only at h1 h2 h3;by_cases h:(i:Int)<N
   ·right;have hw:=bz i (by omega);have hB:=OJ h1;obtain⟨q0,q1,q2⟩:=jl h2;obtain⟨c1,a,a0,a1,e1⟩:=jI c 20 (by omega) (by omega);obtain⟨c2,t,ht,e2⟩:=fy c1 [[],[97],[98],[99,99]] 4 (by simp) (by simp) (by simp);obtain⟨c3,b,e4⟩:=Cw c2 9 (by omega);simp at e2;by_cases hp:d.pending.length<16
    ·have e3:=Ik d a t h2 ⟨a0,by omega⟩ hp;have o1:=adq (t:=t) h2 ⟨a0,by omega⟩ hp;have o2:bU ⟨d.cells,d.pending++[⟨a,t⟩]⟩<=bU d+10:=by simp[bU,wL,di];omega
     generalize (⟨d.cells,d.pending++[⟨a,t⟩]⟩:bD)=d2 at e3 o1 o2;try simp at e3
     cases b;·refine⟨((c3,i+1),d2),⟨by show i+1<=22;omega,o1,by show bU d2<=lT (i+1);rw[Dv];omega⟩,by show 50 - (i+1)<50 - i;omega,?_⟩;simp -implicitDefEqProofs [uD,xk,xl,xm,xw,uK,xB,qw,sE,sF,uL,sG,uE,uF,xo,uG,xp,xq,sD,uH,uI,xu,uJ,xx,xy,xA,h,hw,e1,e2,e4,cX,cP,cV,e3]
     ·have e5:=yR d2 o1;have o3:=vP o1;have o4:=zy d2;generalize gP d2=d3 at e5 o3 o4;try simp at e5
      refine⟨((c3,i+1),d3),⟨by show i+1<=22;omega,o3,by show bU d3<=lT (i+1);rw[Dv];omega⟩,by show 50 - (i+1)<50 - i;omega,?_⟩;simp -implicitDefEqProofs [uD,xk,xl,xm,xw,uK,xB,qw,sE,sF,uL,sG,uE,uF,xo,uG,xp,xq,sD,uH,uI,xu,uJ,xx,xy,xA,h,hw,e1,e2,e4,cX,cP,cV,e3,e5]
    ·have e3:=Wn d a t h2 (by omega);try simp at e3
     cases b;·refine⟨((c3,i+1),d),⟨by show i+1<=22;omega,h2,by show bU d<=lT (i+1);rw[Dv];omega⟩,by show 50 - (i+1)<50 - i;omega,?_⟩;simp -implicitDefEqProofs [uD,xk,xl,xm,xw,uK,xB,qw,sE,sF,uL,sG,uE,uF,xo,uG,xp,xq,sD,uH,uI,xu,uJ,xx,xy,xA,h,hw,e1,e2,e4,cX,cP,cV,e3]
     ·have e5:=yR d h2;have o1:=vP h2;have o2:=zy d;generalize gP d=d2 at e5 o1 o2;try simp at e5
      refine⟨((c3,i+1),d2),⟨by show i+1<=22;omega,o1,by show bU d2<=lT (i+1);rw[Dv];omega⟩,by show 50 - (i+1)<50 - i;omega,?_⟩;simp -implicitDefEqProofs [uD,xk,xl,xm,xw,uK,xB,qw,sE,sF,uL,sG,uE,uF,xo,uG,xp,xq,sD,uH,uI,xu,uJ,xx,xy,xA,h,hw,e1,e2,e4,cX,cP,cV,e3,e5]
   ·left;refine⟨((c,i),d),⟨h1,h2,h3⟩,?_⟩;simp -implicitDefEqProofs [uD,xk,h])
  ((c0,0),⟨List.replicate 20 [],[]⟩) ⟨by simp,Xh,by show bU _<=lT 0;have:=Xi;unfold lT;omega⟩
 simp only at h1 h2 h3;have hB:=OJ h1;refine⟨c',d,h2,by omega,?_⟩;try simp at u2
 try simp at e
 rw[ay (b:=F4) (rs:=_) (n:=1) rfl rfl];simp -implicitDefEqProofs [F4,u1,u2,e]
end M
set_option maxHeartbeats 8000000
namespace M
open Go
variable [Lb]
def ah5(c:bp):∃(c':bp) (d:bD),bU d<=5000/\(∀w∈d.pending,bI w.at_)/\ev LI TT 121 [.ptr .own (aR c)]=some (.agg (cL .own d),[.ptr .own (aR c')]):=by
 obtain⟨c1,d,hd,hw,u1⟩:=ah7 c;obtain⟨q0,q1,q2⟩:=jl hd;obtain⟨c2,k,k0,k1,u2⟩:=jI c1 15 (by omega) (by omega);have hb:∀w∈d.pending,bI w.at_:=λw hw=>by have:=q0 w hw;unfold bI;omega
 have dM:bU d=wL wS d.cells+wL di d.pending:=rfl;try simp at u1
 by_cases g0:k=0
 ·subst g0;obtain⟨cs,ps⟩:=d;simp only at q1 q2 dM hb u1;refine⟨c2,⟨cs.tail,ps⟩,?_,hb,?_⟩
  ·show wL wS cs.tail+wL di ps<=5000
   have:wL wS cs.tail<=wL wS cs:=by
    cases cs with
    |nil=>simp
    |cons a l=>simp[wL];omega
   omega
  have h1:1<=cs.length:=by omega
  have h1':(1:Int)<=cs.length:=by omega
  have ht:List.take cs.length (cs.map eS)=cs.map eS:=yo (by simp);have ht2:X.clean.bh (cs.map eS).tail=true:=by have:=W6 cs.tail;rwa [List.map_tail] at this
  rw[ay (b:=oM) (rs:=_) (n:=1) rfl rfl];simp -implicitDefEqProofs [oM,xC,xD,u1,u2,h1,h1',wJ,ht,ht2]
 by_cases g1:k=1
 ·subst g1;obtain⟨c3,a,ha,u3⟩:=yl c2 [-1,19,20] (by simp) (by simp);obtain⟨cs,ps⟩:=d;simp only at q1 q2 dM hb u1;simp at u3;have h8:(ps.length+1)*24<=140737488355328:=by omega
  refine⟨c3,⟨cs,ps++[⟨a,[]⟩]⟩,?_,λw hw=>?_,?_⟩;·show wL wS cs+wL di (ps++[⟨a,[]⟩])<=5000;simp[wL,di] at dM⊢;omega
  ·rcases dX.1 hw with hw|hw;·exact hb w hw
   ·simp at hw ha;rw[hw];unfold bI;simp only;omega
  rw[ay (b:=oM) (rs:=_) (n:=1) rfl rfl];simp -implicitDefEqProofs [oM,xC,xD,u1,u2,u3,cE,h8,cX,cP,cV]
 by_cases g2:k=2
 ·subst g2;obtain⟨c3,v,v0,v1,u3⟩:=jI c2 2 (by omega) (by omega);obtain⟨n,rfl⟩:∃n:Nat,v=n:=⟨v.toNat,by omega⟩;have hw1:IntKind.i64.wrap (16+(n:Int))=((16+n:Nat):Int):=by rw[cJ (by omega) (by omega)];omega
  obtain⟨cs,ps⟩:=d;simp only at q1 q2 dM hb u1;refine⟨c3,⟨cs,List.replicate (16+n) ⟨0,[]⟩⟩,?_,λw hw=>?_,?_⟩
  ·show wL wS cs+wL di (List.replicate (16+n) ⟨0,[]⟩)<=5000;have:wL di (List.replicate (16+n) ⟨0,[]⟩)<=40:=by simp[wL,di];omega
   omega
  ·have:=(My.1 hw).2;rw[this];unfold bI;simp
  rw[ay (b:=oM) (rs:=_) (n:=1) rfl rfl];simp -implicitDefEqProofs [oM,xC,xD,u1,u2,u3,hw1,cX,cP,cV];have hz:(16+(n:Int)).toNat=16+n:=by omega
  refine⟨⟨by omega,by omega⟩,?_,hz⟩;rw[hz];have:=W7 (List.replicate (16+n) ⟨0,[]⟩);simpa using this
 ·refine⟨c2,d,by omega,hb,?_⟩;rw[ay (b:=oM) (rs:=_) (n:=1) rfl rfl];simp -implicitDefEqProofs [oM,xC,xD,u1,u2,g0,g1,g2]
end M
set_option maxHeartbeats 8000000
namespace M
open Go
variable [Lb]
def IB:∀(a b:List (List X)),X.clean.bh a=true->X.clean.bh b=true->X.clean.bh (a++b)=true
 |[],b,_,h=>h
 |x::a,b,h1,h2=>by simp only[X.clean.bh,aq,fD] at h1⊢;exact⟨h1.1,IB a b h1.2 h2⟩
structure lQ (R:List (List X)) (os:List Kp):Prop where
 cl:X.clean.bh R=true
 md:X.bQ .af R=os.map (aM .af)
 len:R.length=os.length
 el:∀i (h:i<os.length),∃m:Md,(m=.own\/m=.sl)/\R[i]?=some (aM m os[i])
def wY(os:List Kp):lQ (os.map (aM .own)) os:=⟨Oo os,E8 .af .own os,by simp,λi h=>⟨.own,.inl rfl,by simp[h]⟩⟩
def aeS(k:Kp)(l:List Kp):lQ (aM .sl k::(l.map (aM .own)++[aM .sl k])) (k::l++[k]):=by
 refine⟨?_,?_,by simp,λi h=>?_⟩;·have h1:=W8 [k];exact IB [aM .sl k] _ h1 (IB _ _ (Oo l) h1)
 ·have h1:=E8 .af .sl [k];have h2:=E8 .af .own l;simp only[aY,gi,X.bQ] at h1;rw[show aM .sl k::(l.map (aM .own)++[aM .sl k])=[aM .sl k]++(l.map (aM .own)++[aM .sl k]) from rfl,Ri,Ri,h2];simp only[X.bQ,h1];simp
 ·cases i with
  |zero=>exact⟨.sl,.inr rfl,by simp⟩
  |succ i=>
   simp only[cG,fE,gH] at h;by_cases hi:i<l.length;·exact⟨.own,.inl rfl,by simp[mL,hi,List.getElem_append_left]⟩
   ·obtain rfl:i=l.length:=by simp at h;omega
    exact⟨.sl,.inr rfl,by simp⟩
def ah9(c c1 c2:bp)(s:Sh)(h2:bC s<=1000000)(u1:ev LI TT 120 [.ptr .own (aR c)]=some (.agg (aO .own s),[.ptr .own (aR c1)]))(u2:ev LI TT 110 [.ptr .own (aR c1),.int .i64 20]=some (.int .i64 3,[.ptr .own (aR c2),.dead])):∃(R:List (List X)) (os:List Kp),lQ R os/\wL bH os<=2000010/\ev LI TT 95 [.ptr .own (aR c)]=some (.agg [.row .own 1 (s.aG.cells.map eS),.row .own 2 (s.aG.pending.map eW),.row .own 9 R,.row .own 4 (s.aF.map bK),.int .i64 s.next,.int .i64 s.seq],[.ptr .own (aR c2)]):=by
 obtain⟨⟨cs,ps⟩,os,bs,nx,sq⟩:=s;simp only[bC] at h2;try simp at u1
 cases os with
 |nil=>refine⟨[],[],wY [],by simp[wL],?_⟩;rw[ay (b:=jG) (rs:=_) (n:=1) rfl rfl];simp -implicitDefEqProofs [jG,qx,u1,u2]
 |cons k l=>
  have h8:(l.length+1+1)*136<=140737488355328:=by have:=bx (w:=bH) (k::l);simp only[cG] at this;omega
  have h0:(0:Int)<(l.length:Int)+1:=by omega
  refine⟨_,_,aeS k l,?_,?_⟩
  ·have h3:=oO (w:=bH) (l:=k::l) (a:=k) bE;rw[yf];have:wL bH [k]=1+bH k:=by simp[wL]
   omega
  rw[ay (b:=jG) (rs:=_) (n:=1) rfl rfl];simp -implicitDefEqProofs [jG,qx,u1,u2,cE,h8,h0,ghost,pI,ju,pK,mg,X.pfx,qA]
def ah8(c:bp):∃(c':bp) (s:Sh) (R:List (List X)),lQ R s.ai/\bC s<=3100000/\ev LI TT 95 [.ptr .own (aR c)]=some (.agg [.row .own 1 (s.aG.cells.map eS),.row .own 2 (s.aG.pending.map eW),.row .own 9 R,.row .own 4 (s.aF.map bK),.int .i64 s.next,.int .i64 s.seq],[.ptr .own (aR c')]):=by
 obtain⟨c1,s,hs,hw,u1⟩:=aia c;obtain⟨c2,k,k0,k1,u2⟩:=jI c1 20 (by omega) (by omega);by_cases g3:k=3;·subst g3;obtain⟨R,os,h1,h2,e⟩:=ah9 c c1 c2 s hw u1 u2;refine⟨c2,⟨s.aG,os,s.aF,s.next,s.seq⟩,R,h1,?_,e⟩;simp only[bC] at hw⊢;omega
 have hab:=(nI hs).b;try simp at u1
 simp only[bC] at hw;by_cases g0:k=0;·subst g0;obtain⟨c3,n,hn,u3⟩:=yl c2 [4,5,19,20] (by simp) (by simp);simp at u3;refine⟨c3,⟨s.aG,s.ai,s.aF,n,s.seq⟩,_,wY _,by simp only[bC];omega,?_⟩;rw[ay (b:=jG) (rs:=_) (n:=1) rfl rfl];simp -implicitDefEqProofs [jG,qx,u1,u2,u3,cX,cP,cV]
 by_cases g1:k=1;·subst g1;obtain⟨c3,n,hn,u3⟩:=yl c2 [0,1,100000,100001] (by simp) (by simp);simp at u3;refine⟨c3,⟨s.aG,s.ai,s.aF,s.next,n⟩,_,wY _,by simp only[bC];omega,?_⟩;rw[ay (b:=jG) (rs:=_) (n:=1) rfl rfl];simp -implicitDefEqProofs [jG,qx,u1,u2,u3,cX,cP,cV]
 by_cases g2:k=2
 ·subst g2;obtain⟨c3,b,hb,u3⟩:=ah4 c2;try simp at u3
  have h8:(s.aF.length+1)*48<=140737488355328:=by omega
  refine⟨c3,⟨s.aG,s.ai,s.aF++[b],s.next,s.seq⟩,_,wY _,?_,?_⟩
  ·simp only[bC,yf];have:wL aW [b]=1+aW b:=by simp[wL]
   omega
  rw[ay (b:=jG) (rs:=_) (n:=1) rfl rfl];simp -implicitDefEqProofs [jG,qx,u1,u2,u3,cE,h8,cX,cP,cV]
 by_cases g4:k=4
 ·subst g4;obtain⟨c3,d,hd,hp,u3⟩:=ah5 c2;try simp at u3
  refine⟨c3,⟨d,s.ai,s.aF,s.next,s.seq⟩,_,wY _,by simp only[bC];omega,?_⟩;rw[ay (b:=jG) (rs:=_) (n:=1) rfl rfl];simp -implicitDefEqProofs [jG,qx,u1,u2,u3,cX,cP,cV]
 ·refine⟨c2,s,_,wY _,by simp only[bC];omega,?_⟩;rw[ay (b:=jG) (rs:=_) (n:=1) rfl rfl];simp -implicitDefEqProofs [jG,qx,u1,u2,g0,g1,g2,g3,g4,cX,cP,cV]
end M
set_option maxHeartbeats 8000000
namespace M
open Go
variable [Fd]
def Wi(code:List UInt8):ev LI TT 8 [.row .af 1 (code.map eU)]=some (.bool (decide (1048576<code.length)),[.dead]):=by rw[ay (b:=E2) (rs:=[.t 2]) (n:=1) rfl rfl];simp -implicitDefEqProofs [E2];omega
def Rj(m:Md):∀(R:List (List X)) (i:Nat) (x:List X),X.bQ m (R.set i x)=(X.bQ m R).set i (X.ef m x)
 |[],i,x=>by simp[X.bQ]
 |y::R,0,x=>by simp[X.bQ]
 |y::R,i+1,x=>by simp[X.bQ,Rj m R i x]
def On:∀(R:List (List X)) (i:Nat) (x:List X),X.clean.bh R=true->X.clean.cD x=true->X.clean.bh (R.set i x)=true
 |[],i,x,h,_=>by simp[X.clean.bh]
 |y::R,0,x,h,hx=>by simp only[X.clean.bh,aq,aP] at h⊢;exact⟨hx,h.2⟩
 |y::R,i+1,x,h,hx=>by simp only[X.clean.bh,aq,aQ] at h⊢;exact⟨h.1,On R i x h.2 hx⟩
def aeT{R:List (List X)}{os:List Kp}(h:lQ R os)(i:Nat)(hi:i<os.length):lQ (R.set i (aM .sl os[i])) os:=by
 refine⟨On _ _ _ h.cl ?_,?_,by rw[CS];exact h.len,λj hj=>?_⟩;·simp[X.clean.cD,X.clean]
 ·have h1:=E8 .af .sl [os[i]];simp only[aY,gi,X.bQ,mK,qJ] at h1;rw[Rj,h.md,h1];refine List.ext_getElem (by simp) λj h4 h5=>?_;rw[List.getElem_set];split;·rename_i e;subst e;simp
  ·rfl
 ·by_cases e:i=j;·subst e;exact⟨.sl,.inr rfl,by rw[List.getElem?_set_self (by rw[h.len];exact hi)]⟩
  ·obtain⟨m,hm,he⟩:=h.el j hj;exact⟨m,hm,by rw[TP e];exact he⟩
def ah2(code:List UInt8)(hl:code.length<=1048576):∃(s:Sh) (R:List (List X)) (q:Rq),lQ R s.ai/\bC s<=3100000/\eV q<=10000/\∃ps,ev LI TT 24 [.row .sl 1 (code.map eU)]=some (.ak [.agg [.row .own 1 (s.aG.cells.map eS),.row .own 2 (s.aG.pending.map eW),.row .own 9 R,.row .own 4 (s.aF.map bK),.int .i64 s.next,.int .i64 s.seq],.agg (dw .own q)],ps):=by
 obtain⟨c,hc⟩:=aid code hl;obtain⟨c1,s,R,hR,hs,u1⟩:=ah8 c;obtain⟨c2,q,hq,hm,u2⟩:=Ts c1;try simp at u2
 have hcl:=hR.cl;refine⟨s,R,q,hR,hs,by omega,?_⟩;rw[ay (b:=FA) (rs:=_) (n:=1) rfl rfl];simp -implicitDefEqProofs [FA,La,hc,u1,u2,hcl]
def acr{xt:Nat}{γ δ:Type}{f:ah->cB}(st:γ->ah)(μ:γ->Nat)(Inv Ie:γ->Prop)(E:γ->ah)(R:δ->ah)(s8:δ->Prop)
  (h:∀g,Inv g->(∃g',Ie g'/\f (st g)=some (.exit xt,E g'))\/(∃d,s8 d/\f (st g)=some (.ret,R d))\/∃g',Inv g'/\μ g'<μ g/\f (st g)=some (.normal,st g'))(g:γ)(hg:Inv g):(∃g',Ie g'/\aH f (st g)=some (.exit xt,E g'))\/∃d,s8 d/\aH f (st g)=some (.ret,R d):=by
 suffices H:∀n g,μ g=n->Inv g->(∃g',Ie g'/\aH f (st g)=some (.exit xt,E g'))\/∃d,s8 d/\aH f (st g)=some (.ret,R d) from H _ g rfl hg
 intro n;induction n using Nat.strongRecOn with
 |ind n ih=>
  intro g hn hI;rcases h g hI with ⟨g',h1,h2⟩|⟨d,h1,h2⟩|⟨g',h1,h2,h3⟩;·exact .inl ⟨g',h1,by rw[dH,h2];rfl⟩
  ·exact .inr ⟨d,h1,by rw[dH,h2];rfl⟩
  ·rw[dH,h3];exact ih _ (by omega) g' rfl h1
def TZ(s:Sh)(q:Rq)(o:Ob)(ok:Bool)(hs:bC s<=3100000)(hq:eV q<=10000)(ho:cr o<=3100000)(hf:∀k,s.ai.reverse.find? (iF s q)=some k->ok=true/\o=k.obj)(R:List (List X))(hR:lQ R s.ai):
  (∃g:Nat×List (List X),((g.1<=s.ai.length/\lQ g.2 s.ai/\∀i (h:i<s.ai.length),g.1<=i->iF s q s.ai[i]=false)/\g.1=0)/\aH (aj (ev LI TT) (av TT) nu) [(3,.ptr .own [.row .own 1 (s.aG.cells.map eS),.row .own 2 (s.aG.pending.map eW),.row .own 9 R,.row .own 4 (s.aF.map bK),.int .i64 s.next,.int .i64 s.seq]),(4,.ptr .own (dw .own q)),(5,.ptr .own (aS .own o)),(6,.bool ok),(9,.int .i64 ((s.ai.length:Int) - 1))]=some (.exit 0,[(3,.ptr .own [.row .own 1 (s.aG.cells.map eS),.row .own 2 (s.aG.pending.map eW),.row .own 9 g.2,.row .own 4 (s.aF.map bK),.int .i64 s.next,.int .i64 s.seq]),(4,.ptr .own (dw .own q)),(5,.ptr .own (aS .own o)),(6,.bool ok),(9,.int .i64 ((g.1:Int) - 1)),(50,.bool false)]))\/∃d:Bool,d=true/\aH (aj (ev LI TT) (av TT) nu) [(3,.ptr .own [.row .own 1 (s.aG.cells.map eS),.row .own 2 (s.aG.pending.map eW),.row .own 9 R,.row .own 4 (s.aF.map bK),.int .i64 s.next,.int .i64 s.seq]),(4,.ptr .own (dw .own q)),(5,.ptr .own (aS .own o)),(6,.bool ok),(9,.int .i64 ((s.ai.length:Int) - 1))]=some (.ret,[(2,.bool d)]):=by
 obtain⟨⟨cs,ps⟩,os,bs,nx,sq⟩:=s;simp only at hR hf⊢;have hlen:=bx (w:=bH) os;simp only[bC] at hs
 have H:=acr (xt:=0) (f:=aj (ev LI TT) (av TT) nu)
  (λ(g:Nat×List (List X))=>[(3,.ptr .own [.row .own 1 (cs.map eS),.row .own 2 (ps.map eW),.row .own 9 g.2,.row .own 4 (bs.map bK),.int .i64 nx,.int .i64 sq]),(4,.ptr .own (dw .own q)),(5,.ptr .own (aS .own o)),(6,.bool ok),(9,.int .i64 ((g.1:Int) - 1))])
  (λg=>g.1) (λg=>g.1<=os.length/\lQ g.2 os/\∀i (h:i<os.length),g.1<=i->iF ⟨⟨cs,ps⟩,os,bs,nx,sq⟩ q os[i]=false) (λg=>(g.1<=os.length/\lQ g.2 os/\∀i (h:i<os.length),g.1<=i->iF ⟨⟨cs,ps⟩,os,bs,nx,sq⟩ q os[i]=false)/\g.1=0)
  (λg=>[(3,.ptr .own [.row .own 1 (cs.map eS),.row .own 2 (ps.map eW),.row .own 9 g.2,.row .own 4 (bs.map bK),.int .i64 nx,.int .i64 sq]),(4,.ptr .own (dw .own q)),(5,.ptr .own (aS .own o)),(6,.bool ok),(9,.int .i64 ((g.1:Int) - 1)),(50,.bool false)])
  (λ(d:Bool)=>[(2,.bool d)]) (λd=>d=true)
  (λg hg=>by
   obtain⟨j,R⟩:=g;obtain⟨h1,hR,h3⟩:=hg;simp only at h1 hR h3;cases j with
   |zero=>left;refine⟨(0,R),⟨⟨h1,hR,h3⟩,rfl⟩,?_⟩;simp -implicitDefEqProofs [nu,wv]
   |succ i=>
    right;have hi:i<os.length:=by omega
    have zR:i<R.length:=by rw[hR.len];exact hi
    obtain⟨m,hm,he⟩:=hR.el i hi;obtain⟨_,he⟩:=aN.1 he;have hRs:=aeT hR i hi;have ni:R=R.set i (aM m os[i]):=by rw[<-he,List.set_getElem_self]
    obtain⟨k,hk⟩:∃k,k=os[i]:=⟨_,rfl⟩;have hkw:bH k<=wL bH os:=by rw[hk];exact ahY hi
    rw[<-hk] at he hRs ni;have aky:bH k=k.obj.path.length+wL wS k.obj.names+wL wS k.obj.values+ct k.obj.resp:=rfl;have hqw:eV q=q.path.length+wL aJ q.fields+q.body.length:=rfl;have hnl:=bx (w:=wS) k.obj.names;have hvl:=bx (w:=wS) k.obj.values;have akC:=bx (w:=aJ) q.fields;have u1:=NG k.obj.names k.obj.values q.fields (by omega) (by omega) (by omega);have u2:=NC bs k.obj (by omega) (by show bH k<=_;omega);have hw:IntKind.i64.wrap ((i:Int) - 1)=(i:Int) - 1:=cJ (by omega) (by omega);try simp at u1
    try simp at u2
    have Jh:=Ih k.obj (by show bH k<=_;omega);have hT2:=Ih o (by omega);have akv:i<(R.set i (aM m k)).length:=by rw[CS];exact zR
    have Qf:(decide (k.obj.path=q.path) && mE k.obj.names k.obj.values q.fields && !fL bs k.obj)=false->∃g':Nat×List (List X),(g'.1<=os.length/\lQ g'.2 os/\∀i (h:i<os.length),g'.1<=i->iF ⟨⟨cs,ps⟩,os,bs,nx,sq⟩ q os[i]=false)/\g'.1<i+1/\aj (ev LI TT) (av TT) nu [(3,.ptr .own [.row .own 1 (cs.map eS),.row .own 2 (ps.map eW),.row .own 9 R,.row .own 4 (bs.map bK),.int .i64 nx,.int .i64 sq]),(4,.ptr .own (dw .own q)),(5,.ptr .own (aS .own o)),(6,.bool ok),(9,.int .i64 (((i+1:Nat):Int) - 1))]=some (.normal,[(3,.ptr .own [.row .own 1 (cs.map eS),.row .own 2 (ps.map eW),.row .own 9 g'.2,.row .own 4 (bs.map bK),.int .i64 nx,.int .i64 sq]),(4,.ptr .own (dw .own q)),(5,.ptr .own (aS .own o)),(6,.bool ok),(9,.int .i64 ((g'.1:Int) - 1))]):=by
     intro hno;refine⟨(i,R.set i (aM .sl k)),⟨by simp only;omega,hRs,λj hj hij=>?_⟩,by simp only;omega,?_⟩
     ·simp only at hij;by_cases e:j=i;·subst e;unfold iF;rw[<-hk];exact hno
      ·exact h3 j hj (by omega)
     ·clear hRs h3 hR hf;rw[ni];clear ni;generalize mE k.obj.names k.obj.values q.fields=b1 at u1 hno;generalize fL bs k.obj=b2 at u2 hno;by_cases p1:k.obj.path=q.path
      ·have p1':=eq_true p1;cases b1;·rcases hm with rfl|rfl<;>simp -implicitDefEqProofs [nu,wv,zR,u1,u2,hw,p1',ghost,pI,ju,pK,mg,X.pfx,qA]
       ·have:b2=true:=by simpa [p1] using hno
        subst this;rcases hm with rfl|rfl<;>simp -implicitDefEqProofs [nu,wv,zR,u1,u2,hw,p1',ghost,pI,ju,pK,mg,X.pfx,qA]
      ·have p1':=eq_false p1;rcases hm with rfl|rfl<;>simp -implicitDefEqProofs [nu,wv,zR,u1,u2,hw,p1',ghost,pI,ju,pK,mg,X.pfx,qA]
    cases hp:(decide (k.obj.path=q.path) && mE k.obj.names k.obj.values q.fields && !fL bs k.obj);·right;exact Qf hp
    ·left
     have hfi:os.reverse.find? (iF ⟨⟨cs,ps⟩,os,bs,nx,sq⟩ q)=some k:=by
      have hpk:iF ⟨⟨cs,ps⟩,os,bs,nx,sq⟩ q os[i]=true:=by unfold iF;rw[<-hk];exact hp
      rw[hk];exact Ph (hi:=hi) hpk λj hj hij=>h3 j hj (by omega)
     obtain⟨rfl,rfl⟩:=hf k hfi;simp only[aq,bn,oU] at hp;rw[hp.1.2] at u1;rw[hp.2] at u2;have p1':=eq_true hp.1.1;refine⟨true,rfl,?_⟩;clear hRs h3 hR hf hfi Qf;show aj (ev LI TT) (av TT) nu [(3,.ptr .own [.row .own 1 (cs.map eS),.row .own 2 (ps.map eW),.row .own 9 R,.row .own 4 (bs.map bK),.int .i64 nx,.int .i64 sq]),(4,.ptr .own (dw .own q)),(5,.ptr .own (aS .own k.obj)),(6,.bool true),(9,.int .i64 (((i+1:Nat):Int) - 1))]=_;rw[ni];clear ni;generalize dU k.obj=ot at Jh;try simp at Jh
     rcases hm with rfl|rfl<;>simp -implicitDefEqProofs [nu,wv,zR,u1,u2,hw,p1',Jh,ghost,pI,ju,pK,mg,X.pfx,qA])
  (os.length,R) ⟨dz _,hR,λi h h'=>absurd h (by omega)⟩
 exact H
def ak4(code:List UInt8)(k:code.length<=9223372036854775807/\∀b∈code,True):∃ps,ev LI TT 4 [.row .sl 1 (code.map eU)]=some (.bool true,ps):=by
 rw[ay (b:=tX) (rs:=[.t 2]) (n:=1) rfl rfl];have h1:=Wi code;by_cases hbig:1048576<code.length;·simp -implicitDefEqProofs [tX,h1,hbig]
 obtain⟨s,R,q,hR,hs,hq,ps1,u1⟩:=ah2 code (by omega);have kH:=hR.md;have hcl:=hR.cl;have hlen:=hR.len;have hol:=bx (w:=bH) s.ai;have akA:s.ai.length<=3100000:=by simp only[bC] at hs;omega
 have u3:=V1 s q (by omega) (by omega);have u4:=Wp s q (by omega) (by omega);have u5:=yT s (by omega);obtain⟨_,how⟩:=XR (s:=s) (q:=q);have hfo:de s=true->∀k,s.ai.reverse.find? (iF s q)=some k->(gO s q).isSome=true/\(gO s q).getD eX=k.obj:=by intro hok k hk;unfold gO rA;rw[az hok,hk];exact⟨rfl,rfl⟩
 have hfn:(∀i (h:i<s.ai.length),0<=i->iF s q s.ai[i]=false)->(gO s q).isSome=false:=by
  intro h;have:s.ai.reverse.find? (iF s q)=none:=by rw[MU];intro x hx;obtain⟨i,hi,rfl⟩:=nT (Ht.1 hx);simp[h i hi (oT _)]
  unfold gO rA;rw[this];split<;>rfl
 have hfz:de s=false->(gO s q).isSome=false:=by intro h;unfold gO;rw[h];rfl
 generalize (gO s q).isSome=ok at u3 u4 hfo hfn hfz;generalize (gO s q).getD eX=o at u3 u4 hfo how;have u6:=Ih o (by omega);generalize hot:dU o=ot at u6;have u7:=V6;have u8:=NF kO (by have:=SG;omega);rw[SF] at u8;have QB:IntKind.i64.wrap ((R.length:Int) - 1)=(s.ai.length:Int) - 1:=by rw[hlen];exact cJ (by omega) (by omega)
 try simp at u3
 try simp at u4
 try simp at u5
 try simp at u6
 try simp[kO] at u7
 try simp[kO] at u8
 cases hok:de s;·rw[hok] at u5;have:=hfz hok;subst this;simp -implicitDefEqProofs [tX,h1,hbig,u1,u3,u4,u5,u6,kH,hcl]
 ·rw[hok] at u5;have hF:=hfo hok;rcases TZ s q o ok hs hq (by omega) (λk hk=>⟨(hF k hk).1,(hF k hk).2⟩) R hR with ⟨⟨j,R2⟩,⟨⟨g1,g2,g3⟩,g0⟩,e⟩|⟨d,hd,e⟩
  ·simp only at g0 g3;subst g0;have:=hfn g3;subst this;try simp at e
   simp -implicitDefEqProofs [tX,h1,hbig,u1,u3,u4,u5,u6,u7,u8,kH,hcl,QB,e]
  ·subst hd;try simp at e
   simp -implicitDefEqProofs [tX,h1,hbig,u1,u3,u4,u5,u6,u7,u8,kH,hcl,QB,e]
end M
