/- What the functions come to in the machine; no conditions. -/
import Derived.Test.YtcibpfbfblmedaaGreatDoorTab
import Derived.Test.YtcibpfbfblmedaaGreatDoorMc
set_option linter.defProp false
set_option linter.unusedSectionVars false
set_option linter.unusedVariables false
set_option linter.unusedSimpArgs false
namespace M
open Go
variable [Lb]
end M
namespace M
open Go
variable [Lb]
@[simp] def aln(x:Int)(lo:Int)(hi:Int):ev LI TT 16 [.int .i64 x,.int .i64 lo,.int .i64 hi]=some (.bool ((decide (lo<=x/\x<=hi))),[.dead,.dead,.dead]):=by rw[aE (b:=Gu) (rs:=[.t 6]) (n:=3) rfl rfl];simp -implicitDefEqProofs [Gu];try (by_cases h1:lo<=x<;>by_cases h2:x<=hi<;>simp[h1,h2])
def Wc(s:ah)(hb:s.length<=9223372036854775807):bh (aA (ev LI TT) (aB TT) Ct) [(0,.str ⟨s.toArray⟩),(3,.int .i64 0)]=if bq Du (s)=true then some (.exit 0,[(0,.str ⟨s.toArray⟩),(3,.int .i64 (s).length),(7,.bool false)]) else some (.ret,[(2,.bool false)]):=by
 refine iX (f:=aA (ev LI TT) (aB TT) Ct) (s) (λi=>[(0,.str ⟨s.toArray⟩),(3,.int .i64 i)]) Du _ _ (λi b hi hl=>?_) ?_;·have hw:=bY i (by first|omega|(simp at hl;omega));obtain⟨_,rfl⟩:=aQ.1 hi;unfold Du;simp -implicitDefEqProofs [Ct,Lp,hl,hw];all_goals (repeat' split)<;>first|rfl|omega|(simp_all;done)|(simp_all;omega)|skip
 ·simp -implicitDefEqProofs [Ct,Lp]
def Jf(s:ah)(hb:s.length<=9223372036854775807):ev LI TT 97 [.str ⟨s.toArray⟩]=some (.bool ((gR s)),[.dead]):=by
 rw[aE (b:=Gc) (rs:=[.t 2]) (n:=1) rfl rfl];unfold gR;have u1:=Wc s hb;try simp at u1
 simp -implicitDefEqProofs [Gc,u1];all_goals (repeat' split)<;>first|rfl|omega|(simp_all;done)|(simp_all;omega)|skip
def Wf(s:ah)(lo:UInt8)(hb:s.length<=9223372036854775807):bh (aA (ev LI TT) (aB TT) Cw) [(0,.str ⟨s.toArray⟩),(1,.int .u8 (lo.toNat:Int)),(5,.int .i64 0)]=if bq (qE lo.toNat) (s)=true then some (.exit 0,[(0,.str ⟨s.toArray⟩),(1,.int .u8 (lo.toNat:Int)),(5,.int .i64 (s).length),(9,.bool false)]) else some (.ret,[(4,.bool false)]):=by
 refine iX (f:=aA (ev LI TT) (aB TT) Cw) (s) (λi=>[(0,.str ⟨s.toArray⟩),(1,.int .u8 (lo.toNat:Int)),(5,.int .i64 i)]) (qE lo.toNat) _ _ (λi b hi hl=>?_) ?_;·have hw:=bY i (by first|omega|(simp at hl;omega));obtain⟨_,rfl⟩:=aQ.1 hi;unfold qE;simp -implicitDefEqProofs [Cw,Ls,hl,hw];all_goals (repeat' split)<;>first|rfl|omega|(simp_all;done)|(simp_all;omega)|skip
 ·simp -implicitDefEqProofs [Cw,Ls]
def Pg(s:ah)(lo:UInt8)(hb:s.length<=9223372036854775807):ev LI TT 139 [.str ⟨s.toArray⟩,.int .u8 (lo.toNat:Int)]=some (.bool ((bq (qE lo.toNat) s)),[.dead,.dead]):=by
 rw[aE (b:=Gg) (rs:=[.t 4]) (n:=2) rfl rfl];have u1:=Wf s lo hb;try simp at u1
 simp -implicitDefEqProofs [Gg,u1];all_goals (repeat' split)<;>first|rfl|omega|(simp_all;done)|(simp_all;omega)|skip
end M
namespace M
open Go
variable [Lb]
end M
namespace M
open Go
variable [Lb]
def Pe(s:ah)(hb:s.length<=9223372036854775807):ev LI TT 141 [.str ⟨s.toArray⟩]=some (.str ⟨(jx s).toArray⟩,[.dead]):=by
 rw[aE (b:=Gd) (rs:=[.t 2]) (n:=1) rfl rfl];have u1:=YH s hb;try simp at u1
 simp -implicitDefEqProofs [Gd,u1];all_goals (repeat' split)<;>first|rfl|omega|(simp_all;done)|(simp_all;omega)|skip
def Jg(s:ah)(hb:s.length<=9223372036854775807):ev LI TT 91 [.str ⟨s.toArray⟩]=some (.bool ((jA s)),[.dead]):=by
 rw[aE (b:=vG) (rs:=[.t 2]) (n:=1) rfl rfl];unfold jA;have e32:(32:UInt8).toNat=32:=rfl;have u1:=Pg s 32 hb;try simp at u1
 have u2:=Pe s hb;try simp at u2
 by_cases g1:1<=(s.length:Int);rotate_left;·simp -implicitDefEqProofs [vG,u1,u2,eq_false g1]
 by_cases g2:(s.length:Int)<=60;rotate_left;·simp -implicitDefEqProofs [vG,u1,u2,eq_true g1,eq_false g2]
 by_cases g3:bq (qE 32) s=true;rotate_left;·simp -implicitDefEqProofs [vG,u1,u2,eq_true g1,eq_true g2,g3]
 simp -implicitDefEqProofs [vG,u1,u2,eq_true g1,eq_true g2,g3];all_goals (repeat' split)<;>first|rfl|omega|(simp_all;done)|(simp_all;omega)|skip
def Jl(s:ah)(hb:s.length<=9223372036854775807):ev LI TT 89 [.str ⟨s.toArray⟩]=some (.bool ((lg s)),[.dead]):=by
 rw[aE (b:=yE) (rs:=[.t 2]) (n:=1) rfl rfl];unfold lg;have e33:(33:UInt8).toNat=33:=rfl;have u1:=Pg s 33 hb;try simp at u1
 by_cases g1:1<=(s.length:Int);rotate_left;·simp -implicitDefEqProofs [yE,u1,eq_false g1]
 by_cases g2:(s.length:Int)<=60;rotate_left;·simp -implicitDefEqProofs [yE,u1,eq_true g1,eq_false g2]
 obtain⟨b,hb0⟩:∃b,s[0]?=some b:=⟨s[0]'(by omega),by simp⟩;by_cases h47:(b.toNat:Int)=47;all_goals
 simp -implicitDefEqProofs [yE,u1,eq_true g1,eq_true g2,hb0,h47];all_goals (repeat' split)<;>first|rfl|omega|(simp_all;done)|(simp_all;omega)|skip
@[simp] def alq(t:Int):ev LI TT 27 [.int .i64 t]=some (.bool ((decide (0<=t/\t<=1000000))),[.dead]):=by rw[aE (b:=Gy) (rs:=[.t 2]) (n:=1) rfl rfl];simp -implicitDefEqProofs [Gy];all_goals (repeat' split)<;>first|rfl|omega|(simp_all;done)|(simp_all;omega)|skip
def Ei(n:Int):ev LI TT 12 [.int .i64 n]=some (.str ⟨(dn n).toArray⟩,[.dead]):=by
 rw[aE (b:=B8) (rs:=[.t 2]) (n:=1) rfl rfl];unfold dn;by_cases hn:0<=n/\n<=1000000;rotate_left
 ·have hf:(decide (0<=n) && decide (n<=1000000))=false:=by simp;omega
  simp -implicitDefEqProofs [B8,hn,hf]
 obtain⟨k,rfl⟩:∃k:Nat,n=k:=⟨n.toNat,by omega⟩;have u1:=uQ k (by omega);try simp at u1
 simp -implicitDefEqProofs [B8,u1,hn];all_goals (repeat' split)<;>first|rfl|omega|(simp_all;done)|(simp_all;omega)|skip
end M
namespace M
open Go
variable [Lb]
def ahi(s:ah)(i:Nat)(h:i<s.length)(x:UInt8)(hx:x=yP s[i]):(dw (s.take i)++s.drop i).set i x=dw (s.take (i+1))++s.drop (i+1):=by
 subst hx;rw[NO _ _ (by simp[dw];omega),o7 h];have:i - (dw (s.take i)).length=0:=by simp[dw];omega
 rw[this,uz h];simp only[aS,dw,kF,bC,jF,sJ,gS,kB]
def T6(s:ah)(i:Nat)(h:i<s.length)(hx:yP s[i]=s[i]):dw (s.take i)++s.drop i=dw (s.take (i+1))++s.drop (i+1):=by rw[uz h,o7 h];simp only[dw,hx,kF,bC,jF,sJ,gS,kB]
def Zd(l:ah)(i:Nat)(x:Int)(b:UInt8)(hx:x=(b.toNat:Int)):(l.map eU).modify i (λe=>e.set 0 (X.int .u8 x))=(l.set i b).map eU:=by
 subst hx;apply iE;intro j;rw[wV,cV,cV,sL];by_cases h:i=j
 ·subst h;by_cases h2:i<l.length;·simp[h2]
  ·simp[h2,jD (Nat.le_of_not_lt h2)]
 ·simp only[h,iD];cases l[j]?<;>rfl
def V1(s:ah)(hb:s.length<=1073741824):bh (aA (ev LI TT) (aB TT) vB) [(3,.row .own 1 ((dw (s.take 0)++s.drop 0).map eU)),(6,.str ⟨s.toArray⟩),(8,.ref 3 []),(9,.int .i64 s.length),(10,.int .i64 0)]=some (.exit 0,[(3,.row .own 1 ((dw s).map eU)),(6,.str ⟨s.toArray⟩),(8,.ref 3 []),(9,.int .i64 s.length),(10,.int .i64 (s).length),(11,.bool false)]):=by
 refine aex (f:=aA (ev LI TT) (aB TT) vB) (s) (λi=>[(3,.row .own 1 ((dw (s.take i)++s.drop i).map eU)),(6,.str ⟨s.toArray⟩),(8,.ref 3 []),(9,.int .i64 s.length),(10,.int .i64 i)]) _ (λi b hi hl=>?_) ?_
 ·have hw:=bY i (by first|omega|(simp at hl;omega));obtain⟨_,rfl⟩:=aQ.1 hi;have hk:(dw (s.take i)++s.drop i).length=s.length:=by simp[dw];omega
  have hx:=s[i].toNat_lt;have hg:(dw (s.take i)++s.drop i)[i]?=some s[i]:=by rw[nN (by simp[dw];omega)];simp[dw,nK (NT hl)]
  have hg':∀h,(dw (s.take i)++s.drop i)[i]'h=s[i]:=λh=>by rw[cr h] at hg;exact iC hg
  generalize hq:dw (s.take i)++s.drop i=q at hk hg hg'⊢;have vk:i<q.length:=by omega
  by_cases h1:65<=(s[i]).toNat;rotate_left
  ·have h1':¬(65:Int)<=(s[i]).toNat:=by omega
   have e:=T6 s i hl (by unfold yP;rw[ay (by omega)]);rw[hq] at e;simp -implicitDefEqProofs [vB,B6,hl,hw,hg,hg',vk,h1',<-e]
  by_cases h2:(s[i]).toNat<=90;rotate_left
  ·have h1':(65:Int)<=(s[i]).toNat:=by omega
   have ack:90<((s[i]).toNat:Int):=by omega
   have mW:¬((s[i]).toNat:Int)<=90:=by omega
   have e:=T6 s i hl (by unfold yP;rw[ay (by omega)]);rw[hq] at e;simp -implicitDefEqProofs [vB,B6,hl,hw,hg,hg',vk,h1',mW,ack,<-e]
  have h1':(65:Int)<=(s[i]).toNat:=by omega
  have mW:((s[i]).toNat:Int)<=90:=by omega
  have h3:=aeA s[i] ⟨h1,h2⟩;have h4:IntKind.u8.wrap ((s[i]).toNat+32)=(s[i]).toNat+32:=akw (by omega) (by omega);have e:=ahi s i hl (s[i]+32) (by unfold yP;rw[aq ⟨h1,h2⟩]);rw[hq] at e;have e2:=Zd q i _ (s[i]+32) (show ((s[i]).toNat:Int)+32=_ by rw[h3];rfl);rw[e] at e2;simp -implicitDefEqProofs [vB,B6,hl,hw,hg,hg',vk,h1',mW,h4,e2];all_goals (repeat' split)<;>first|rfl|omega|(simp_all;done)|(simp_all;omega)|skip
 ·simp only[qG,N3,sK];simp -implicitDefEqProofs [vB,B6]
def O2(s:ah)(hb:s.length<=1073741824):ev LI TT 143 [.str ⟨s.toArray⟩]=some (.str ⟨(dw s).toArray⟩,[.dead]):=by
 rw[aE (b:=FT) (rs:=[.t 2]) (n:=1) rfl rfl];have hl:(dw s).length=s.length:=by simp[dw]
 have e0:dw (s.take 0)++s.drop 0=s:=by simp[dw]
 have u1:=V1 s hb;try simp at u1
 simp -implicitDefEqProofs [FT,u1,hl,rowAt,(by omega:s.length<=9223372036854775807)];all_goals (repeat' split)<;>first|rfl|omega|(simp_all;done)|(simp_all;omega)|skip
@[simp] def alr(n:Int):ev LI TT 178 [.int .i64 n]=some (.int .i64 ((max 0 (min n 1000000))),[.dead]):=by rw[aE (b:=GG) (rs:=[.t 2]) (n:=1) rfl rfl];simp -implicitDefEqProofs [GG];(repeat' split)<;>omega
end M
namespace M
open Go
variable [Lb]
def vV(n:Int):(dn n).length<=7:=by
 unfold dn;split;·exact qY _ (by omega)
 ·simp
def EV{β γ:Type}(go:γ->β->γ):∀(l:List β) (i:Nat) (g:γ),foldI (λ_ g b=>go g b) i l g=l.foldl go g
 |[],_,_=>rfl
 |b::l,i,g=>by rw[foldI,EV go l,qJ]
end M
namespace M
open Go
variable [Lb]
def wo(w:ah):List ah:=if jx w≠[] then [jx w] else []
def ahr(w:ah):(wo w).length<=1:=by unfold wo;split<;>simp
def Wa(s:ah)(ws:List ah)(hb:∀w∈ws,w.length<=1073741824)(hl0:ws.length<=1073741825):bh (aA (ev LI TT) (aB TT) yy) [(3,.row .own 1 (([]).map eS)),(8,.row .own 1 (ws.map eS)),(9,.int .i64 ws.length),(10,.int .i64 0)]=some (.exit 0,[(3,.row .own 1 ((((ws).flatMap wo)).map eS)),(8,.row .own 1 (ws.map eS)),(9,.int .i64 ws.length),(10,.int .i64 (ws).length),(11,.bool false)]):=by
 refine tZ (f:=aA (ev LI TT) (aB TT) yy) (ws) wo (λi out=>[(3,.row .own 1 ((out).map eS)),(8,.row .own 1 (ws.map eS)),(9,.int .i64 ws.length),(10,.int .i64 i)]) (λout=>[(3,.row .own 1 ((out).map eS)),(8,.row .own 1 (ws.map eS)),(9,.int .i64 ws.length),(10,.int .i64 (ws).length),(11,.bool false)]) (λi b out hi hl hout=>?_) (λout hout=>?_)
 ·have hw:=bY i (by first|omega|(simp at hl;omega));obtain⟨_,rfl⟩:=aQ.1 hi;have hlo:out.length<=i:=by rw[hout];exact QN wo ahr ws i
  have hlz:(out.length+1)*16<=140737488355328:=by omega
  have hc:=Pe ws[i] (by have:=hb _ (cB hl);omega);unfold wo;by_cases ht:jx ws[i]=[];·simp -implicitDefEqProofs [yy,F8,hl,hw,hc,eq_true ht]
  simp -implicitDefEqProofs [yy,F8,hl,hw,hc,eq_false ht,cZ,hlz]
 ·simp -implicitDefEqProofs [yy,F8]
def Pd(s:ah)(hb:s.length<=1073741824):ev LI TT 142 [.str ⟨s.toArray⟩]=some (.row .own 1 ((mB s).map eS),[.dead]):=by
 rw[aE (b:=F9) (rs:=[.t 2]) (n:=1) rfl rfl];rw[akt s,show (λw=>if jx w≠[] then [jx w] else [])=wo from rfl];have u1:=uR s 44 (by omega);try simp at u1
 have u2:=Wa s (cu 44 s) (λw hw=>by have:=zA 44 s w hw;omega) (by have:=Ub 44 s;omega);try simp at u2
 simp -implicitDefEqProofs [F9,u1,u2];all_goals (repeat' split)<;>first|rfl|omega|(simp_all;done)|(simp_all;omega)|skip
def Wm(l:List ah)(hl0:l.length<=1073741824)(hb:∀w∈l,w.length<=1073741824):bh (aA (ev LI TT) (aB TT) CD) [(0,.row .af 1 (l.map eS)),(5,.row .af 1 (l.map eS)),(6,.int .i64 l.length),(7,.int .i64 0)]=if bq gR (l)=true then some (.exit 0,[(0,.row .af 1 (l.map eS)),(5,.row .af 1 (l.map eS)),(6,.int .i64 l.length),(7,.int .i64 (l).length),(8,.bool false)]) else some (.ret,[(2,.bool false)]):=by
 refine iX (f:=aA (ev LI TT) (aB TT) CD) (l) (λi=>[(0,.row .af 1 (l.map eS)),(5,.row .af 1 (l.map eS)),(6,.int .i64 l.length),(7,.int .i64 i)]) gR _ _ (λi b hi hl=>?_) ?_
 ·have hw:=bY i (by first|omega|(simp at hl;omega));obtain⟨_,rfl⟩:=aQ.1 hi;have u1:=Jf l[i] (by have:=hb _ (cB hl);omega);try simp at u1
  simp -implicitDefEqProofs [CD,LB,hl,hw,u1];all_goals (repeat' split)<;>first|rfl|omega|(simp_all;done)|(simp_all;omega)|skip
 ·simp -implicitDefEqProofs [CD,LB]
def Pk(l:List ah)(hl0:l.length<=1073741824)(hb:∀w∈l,w.length<=1073741824):ev LI TT 92 [.row .af 1 (l.map eS)]=some (.bool ((bq gR l && decide ((l.length:Int)<=4))),[.dead]):=by
 rw[aE (b:=GD) (rs:=[.t 2]) (n:=1) rfl rfl];have u1:=Wm l hl0 hb;try simp at u1
 simp -implicitDefEqProofs [GD,u1];all_goals (repeat' split)<;>first|rfl|omega|(simp_all;done)|(simp_all;omega)|skip
end M
namespace M
open Go
variable [Lb]
def Yh(f:aM)(n:ah):ev LI TT 165 [.agg (aW f),.ptr .af [.str ⟨n.toArray⟩]]=some (.bool (decide (f.name=n)),[.dead,.dead]):=by rw[aE (b:=Gr) (rs:=[.t 3]) (n:=2) rfl rfl];simp -implicitDefEqProofs [Gr];all_goals (repeat' split)<;>first|rfl|omega|(simp_all;done)|(simp_all;omega)|skip
def Wu(fs:List aM)(n:ah)(hb:fs.length<=9223372036854775807):bh (aA (ev LI TT) (aB TT) DC) [(0,.row .af 2 (fs.map aW)),(1,.fn 165 [.ptr .af [.str ⟨n.toArray⟩]]),(7,.int .i64 fs.length),(8,.int .i64 0)]=(cS (λf=>decide (f.name=n)) 0 (fs)).elim (some (.exit 0,[(0,.row .af 2 (fs.map aW)),(1,.fn 165 [.ptr .af [.str ⟨n.toArray⟩]]),(7,.int .i64 fs.length),(8,.int .i64 (fs).length),(9,.bool false)])) λx=>some (.ret,(λ(i:Nat) b=>[(4,.int .i64 i)]) x.1 x.2):=by
 refine vN (f:=aA (ev LI TT) (aB TT) DC) (fs) (λi=>[(0,.row .af 2 (fs.map aW)),(1,.fn 165 [.ptr .af [.str ⟨n.toArray⟩]]),(7,.int .i64 fs.length),(8,.int .i64 i)]) (λf=>decide (f.name=n)) (λ(i:Nat) b=>[(4,.int .i64 i)]) _ (λi b hi hl=>?_) ?_;·have hw:=bY i (by first|omega|(simp at hl;omega));obtain⟨_,rfl⟩:=aQ.1 hi;have ho:aB TT 165=true:=rfl;have hf:=Yh fs[i] n;simp at hf;simp -implicitDefEqProofs [DC,Nt,hl,hw,ho,lW,hf]
 ·simp -implicitDefEqProofs [DC,Nt]
def Yy(fs:List aM)(n:ah)(hb:fs.length<=9223372036854775807):ev LI TT 164 [.row .af 2 (fs.map aW),.fn 165 [.ptr .af [.str ⟨n.toArray⟩]]]=some (.int .i64 (pg (kI fs n)),[.dead,.dead]):=by
 rw[aE (b:=DE) (rs:=[.t 4]) (n:=2) rfl rfl];have h:=Wu fs n hb;rw[show cS (λf=>decide (f.name=n)) 0 fs=kI fs n from rfl] at h;simp at h;cases g:kI fs n with
 |none=>rw[g] at h;simp at h;simp -implicitDefEqProofs [DE,h,pg]
 |some x=>
 rw[g] at h;simp at h;simp -implicitDefEqProofs [DE,h,pg];all_goals (repeat' split)<;>first|rfl|omega|(simp_all;done)|(simp_all;omega)|skip
def Jh(fs:List aM)(n:ah)(hb:fs.length<=9223372036854775807):ev LI TT 140 [.row .af 2 (fs.map aW),.str ⟨n.toArray⟩]=some (.int .i64 (pg (kI fs n)),[.dead,.dead]):=by rw[aE (b:=Gs) (rs:=[.t 4]) (n:=2) rfl rfl];have h:=Yy fs n hb;simp -implicitDefEqProofs [Gs,h,gN,fy];all_goals (repeat' split)<;>first|rfl|omega|(simp_all;done)|(simp_all;omega)|skip
def nS(fs:List aM)(n:ah)(hb:fs.length<=9223372036854775807):ev LI TT 130 [.row .af 2 (fs.map aW),.str ⟨n.toArray⟩]=some (.ak [.str ⟨((dS fs n).getD []).toArray⟩,.bool (dS fs n).isSome],[.dead,.dead]):=by
 rw[aE (b:=BZ) (rs:=[.t 4,.t 5]) (n:=2) rfl rfl];have h:=Jh fs n hb;unfold dS;cases g:kI fs n with
 |none=>rw[g] at h;simp[pg] at h;simp -implicitDefEqProofs [BZ,h]
 |some x=>
 obtain⟨i,b⟩:=x;rw[g] at h;obtain⟨h1,h2,h3⟩:=q9 g;simp at h2;simp[pg] at h;have hi:i<fs.length:=(aQ.1 h2).1;obtain⟨_,rfl⟩:=aQ.1 h2;simp -implicitDefEqProofs [BZ,h,hi];all_goals (repeat' split)<;>first|rfl|omega|(simp_all;done)|(simp_all;omega)|skip
end M
namespace M
open Go
variable [Lb]
def Mq:(⟨#[99,111,110,116,101,110,116,45,108,101,110,103,116,104]⟩:ByteArray)=⟨fI.toArray⟩:=rfl
def VW(fs:List aM)(hb:wL aL fs<=1073741824):bh (aA (ev LI TT) (aB TT) rL) [(0,.row .af 2 (fs.map aW)),(5,.row .af 2 (fs.map aW)),(6,.int .i64 fs.length),(7,.int .i64 0)]=if bq (rj fs) (fs.zipIdx)=true then some (.exit 0,[(0,.row .af 2 (fs.map aW)),(5,.row .af 2 (fs.map aW)),(6,.int .i64 fs.length),(7,.int .i64 (fs.zipIdx).length),(8,.bool false)]) else some (.ret,[(2,.bool false)]):=by
 refine iX (f:=aA (ev LI TT) (aB TT) rL) (fs.zipIdx) (λi=>[(0,.row .af 2 (fs.map aW)),(5,.row .af 2 (fs.map aW)),(6,.int .i64 fs.length),(7,.int .i64 i)]) (rj fs) _ _ (λi b hi hl=>?_) ?_
 ·have hw:=bY i (by have:=bg (w:=aL) fs;simp at hl;omega);obtain⟨_,rfl⟩:=aQ.1 hi;simp only[Om] at hl;have hz:fs.zipIdx[i]'(by simpa using hl)=(fs[i],i):=by simp
  have hm:=UH (cB hl);have hfl:=bg (w:=aL) fs;rw[hz];have u1:=Jf fs[i].name (by omega);try simp at u1
  have u2:=Jg fs[i].value (by omega);try simp at u2
  have u3:=Jh fs fs[i].name (by omega);try simp at u3
  by_cases g1:gR fs[i].name=true;rotate_left;·simp -implicitDefEqProofs [rL,vA,hl,hw,u1,u2,u3,rj,g1]
  by_cases g2:jA fs[i].value=true;rotate_left;·simp -implicitDefEqProofs [rL,vA,hl,hw,u1,u2,u3,rj,g1,g2]
  by_cases hcl:fs[i].name=fI;·simp -implicitDefEqProofs [rL,vA,hl,hw,u1,u2,u3,g1,g2,rj,Mq,eq_true hcl]
  by_cases g3:pg (kI fs fs[i].name)=i;rotate_left;·simp -implicitDefEqProofs [rL,vA,hl,hw,u1,u2,u3,g1,g2,rj,Mq,eq_false hcl,eq_false g3]
  simp -implicitDefEqProofs [rL,vA,hl,hw,u1,u2,u3,rj,g1,g2,Mq,eq_false hcl,eq_true g3];all_goals (repeat' split)<;>first|rfl|omega|(simp_all;done)|(simp_all;omega)|skip
 ·simp -implicitDefEqProofs [rL,vA]
def O0(fs:List aM)(hb:wL aL fs<=1073741824):ev LI TT 90 [.row .af 2 (fs.map aW)]=some (.bool ((mQ fs)),[.dead]):=by
 rw[aE (b:=FL) (rs:=[.t 2]) (n:=1) rfl rfl];unfold mQ;have hfl:=bg (w:=aL) fs;have u1:=VW fs hb;try simp at u1
 simp -implicitDefEqProofs [FL,u1];all_goals (repeat' split)<;>first|rfl|omega|(simp_all;done)|(simp_all;omega)|skip
def ZH(fs:List aM)(i:Nat)(h:i<fs.length)(v:ah):(fs.map aW).modify i (λe=>e.set 1 (X.str ⟨v.toArray⟩))=(fs.set i ⟨fs[i].name,v⟩).map aW:=by
 apply iE;intro j;rw[wV,cV,cV,sL];by_cases hij:i=j;·subst hij;simp[h]
 ·simp only[hij,iD];cases fs[j]?<;>rfl
def Jc(fs:List aM)(n:ah)(v:ah)(hb:fs.length<=1073741824):ev LI TT 137 [.row .af 2 (fs.map aW),.str ⟨n.toArray⟩,.str ⟨v.toArray⟩]=some (.row .own 2 ((iM fs n v).map aW),[.dead,.dead,.dead]):=by
 rw[aE (b:=Ci) (rs:=[.t 6]) (n:=3) rfl rfl];unfold iM;have hk2:(fs.length+1)*32<=140737488355328:=by omega
 have u1:=Jh fs n (by omega);try simp at u1
 have u2:=LP fs hb;try simp at u2
 cases g:kI fs n with
 |none=>rw[g] at u1;simp[pg] at u1;simp -implicitDefEqProofs [Ci,u1,u2,rowAt,hk2,cZ]
 |some x=>
 obtain⟨i,f⟩:=x;obtain⟨hi,rfl,_⟩:=IP g;rw[g] at u1;simp[pg] at u1;simp -implicitDefEqProofs [Ci,u1,u2,hk2,hi,rowAt,ZH fs i hi v,-List.map_set];all_goals (repeat' split)<;>first|rfl|omega|(simp_all;done)|(simp_all;omega)|skip
def uO(r:aV)(hb:aJ r<=1073741824):ev LI TT 66 [.agg (cF .af r)]=some (.bool ((fA r)),[.dead]):=by
 rw[aE (b:=vC) (rs:=[.t 2]) (n:=1) rfl rfl];have hw:aJ r=wL aL r.fields+r.body.length:=rfl;unfold fA;have u1:=O0 r.fields (by omega);try simp at u1
 by_cases g1:100<=r.status;rotate_left;·simp -implicitDefEqProofs [vC,u1,eq_false g1]
 by_cases g2:r.status<=599;rotate_left;·simp -implicitDefEqProofs [vC,u1,eq_true g1,eq_false g2]
 by_cases g3:(r.body.length:Int)<=120;rotate_left;·simp -implicitDefEqProofs [vC,u1,eq_true g1,eq_true g2,eq_false g3]
 simp -implicitDefEqProofs [vC,u1,eq_true g1,eq_true g2,eq_true g3];all_goals (repeat' split)<;>first|rfl|omega|(simp_all;done)|(simp_all;omega)|skip
def pq(r:aV)(hb:r.fields.length<=1073741824):ev LI TT 21 [.agg (cF .af r)]=some (.agg (cF .own r),[.dead]):=by
 rw[aE (b:=Gp) (rs:=[.c 2 3 true 47]) (n:=1) rfl rfl];have u1:=LP r.fields hb;try simp at u1
 simp -implicitDefEqProofs [Gp,u1];all_goals (repeat' split)<;>first|rfl|omega|(simp_all;done)|(simp_all;omega)|skip
end M
namespace M
open Go
variable [Lb]
def Np(s:ah):(mB s).length<=s.length+1:=by unfold mB;have h1:=Ol (λw:ah=>decide (w≠[])) ((cu 44 s).map jx);have h2:=Ub 44 s;simp only[cX] at h1;omega
def HU(s:ah):∀w∈mB s,w.length<=s.length:=by intro w hw;unfold mB at hw;obtain⟨x,hx,rfl⟩:=aY.1 (List.mem_filter.1 hw).1;have h1:=zA 44 s x hx;have h2:=Uu x;omega
def We(ws:List ah)(hl0:ws.length<=1073741825)(hb:∀w∈ws,w.length<=1073741824):bh (aA (ev LI TT) (aB TT) Cv) [(5,.row .own 1 (([]).map eS)),(14,.row .own 1 (ws.map eS)),(15,.int .i64 ws.length),(16,.int .i64 0)]=some (.exit 0,[(5,.row .own 1 ((((ws).flatMap (λw=>[dw w]))).map eS)),(14,.row .own 1 (ws.map eS)),(15,.int .i64 ws.length),(16,.int .i64 (ws).length),(17,.bool false)]):=by
 refine tZ (f:=aA (ev LI TT) (aB TT) Cv) (ws) (λw=>[dw w]) (λi out=>[(5,.row .own 1 ((out).map eS)),(14,.row .own 1 (ws.map eS)),(15,.int .i64 ws.length),(16,.int .i64 i)]) (λout=>[(5,.row .own 1 ((out).map eS)),(14,.row .own 1 (ws.map eS)),(15,.int .i64 ws.length),(16,.int .i64 (ws).length),(17,.bool false)]) (λi b out hi hl hout=>?_) (λout hout=>?_)
 ·have hw:=bY i (by first|omega|(simp at hl;omega));obtain⟨_,rfl⟩:=aQ.1 hi;have hlo:out.length=i:=by rw[hout];exact xI _ _ _ (by omega)
  have hlz:(i+1)*16<=140737488355328:=by omega
  have u1:=O2 ws[i] (hb _ (cB hl));try simp at u1
  simp -implicitDefEqProofs [Cv,Lr,hl,hw,u1,hlo,hlz,cZ]
 ·simp -implicitDefEqProofs [Cv,Lr]
def Ek(fs:List aM)(hb:wL aL fs<=1073741824):ev LI TT 94 [.row .af 2 (fs.map aW)]=some (.row .own 1 ((eL fs).map eS),[.dead]):=by
 rw[aE (b:=Gf) (rs:=[.t 2]) (n:=1) rfl rfl];have hfl:=bg (w:=aL) fs;have hg:=ve fs ld;have u1:=nS fs ld (by omega);try simp at u1
 have u2:=Pd ((dS fs ld).getD []) (by omega);try simp at u2
 have u3:=We (mB ((dS fs ld).getD [])) (by have:=Np ((dS fs ld).getD []);omega) (λw hw=>by have:=HU _ w hw;omega);try simp at u3
 rw[JT,show (mB ((dS fs ld).getD [])).map dw=eL fs from rfl] at u3;simp -implicitDefEqProofs [Gf,u1,u2,u3];all_goals (repeat' split)<;>first|rfl|omega|(simp_all;done)|(simp_all;omega)|skip
def Nl(fs:List aM):(eL fs).length<=wL aL fs+1:=by have h1:=Np ((dS fs ld).getD []);have h2:=ve fs ld;simp[eL];omega
def V9(r:aV)(hb:r.fields.length<=1073741824):bh (aA (ev LI TT) (aB TT) tT) [(1,.ptr .own (cF .af r)),(2,.ptr .own [.int .i64 0,.row .own 2 [],.str ⟨#[]⟩]),(3,.ptr .own [.int .i64 304,.row .own 2 (([]).map aW),.str ⟨#[]⟩]),(7,.aj 1 [] 0 1),(8,.row .af 2 (r.fields.map aW)),(9,.int .i64 r.fields.length),(10,.int .i64 0)]=some (.exit 0,[(1,.ptr .own (cF .af r)),(2,.ptr .own [.int .i64 0,.row .own 2 [],.str ⟨#[]⟩]),(3,.ptr .own [.int .i64 304,.row .own 2 ((((r.fields).flatMap (λf=>if iO f=true then [f] else []))).map aW),.str ⟨#[]⟩]),(7,.aj 1 [] 0 1),(8,.row .af 2 (r.fields.map aW)),(9,.int .i64 r.fields.length),(10,.int .i64 (r.fields).length),(11,.bool false)]):=by
 refine tZ (f:=aA (ev LI TT) (aB TT) tT) (r.fields) (λf=>if iO f=true then [f] else []) (λi out=>[(1,.ptr .own (cF .af r)),(2,.ptr .own [.int .i64 0,.row .own 2 [],.str ⟨#[]⟩]),(3,.ptr .own [.int .i64 304,.row .own 2 ((out).map aW),.str ⟨#[]⟩]),(7,.aj 1 [] 0 1),(8,.row .af 2 (r.fields.map aW)),(9,.int .i64 r.fields.length),(10,.int .i64 i)]) (λout=>[(1,.ptr .own (cF .af r)),(2,.ptr .own [.int .i64 0,.row .own 2 [],.str ⟨#[]⟩]),(3,.ptr .own [.int .i64 304,.row .own 2 ((out).map aW),.str ⟨#[]⟩]),(7,.aj 1 [] 0 1),(8,.row .af 2 (r.fields.map aW)),(9,.int .i64 r.fields.length),(10,.int .i64 (r.fields).length),(11,.bool false)]) (λi b out hi hl hout=>?_) (λout hout=>?_)
 ·have hw:=bY i (by first|omega|(simp at hl;omega));obtain⟨_,rfl⟩:=aQ.1 hi;have hlo:out.length<=i:=by rw[hout];exact QN _ (λf=>by split<;>simp) _ _
  have hlz:(out.length+1)*32<=140737488355328:=by omega
  unfold iO;have t1:(⟨#[101,116,97,103]⟩:ByteArray)=⟨rX.toArray⟩:=rfl;have t2:(⟨#[118,97,114,121]⟩:ByteArray)=⟨ld.toArray⟩:=rfl;have t3:(⟨#[99,97,99,104,101,45,99,111,110,116,114,111,108]⟩:ByteArray)=⟨rW.toArray⟩:=rfl;by_cases g1:(r.fields[i]).name=rX;·simp -implicitDefEqProofs [tT,yx,hl,hw,hlo,hlz,cZ,t1,t2,t3,eq_true g1]
  by_cases g2:(r.fields[i]).name=ld;·simp -implicitDefEqProofs [tT,yx,hl,hw,hlo,hlz,cZ,t1,t2,t3,eq_false g1,eq_true g2]
  by_cases g3:(r.fields[i]).name=rW;·simp -implicitDefEqProofs [tT,yx,hl,hw,hlo,hlz,cZ,t1,t2,t3,eq_false g1,eq_false g2,eq_true g3]
  simp -implicitDefEqProofs [tT,yx,hl,hw,hlo,hlz,cZ,t1,t2,t3,eq_false g1,eq_false g2,eq_false g3];all_goals (repeat' split)<;>first|rfl|omega|(simp_all;done)|(simp_all;omega)|skip
 ·simp -implicitDefEqProofs [tT,yx]
def Yb(r:aV)(hb:r.fields.length<=1073741824):ev LI TT 136 [.agg (cF .af r)]=some (.agg (cF .own (qB r)),[.dead]):=by
 rw[aE (b:=F7) (rs:=[.c 2 3 true 47]) (n:=1) rfl rfl];have e:r.fields.flatMap (λf=>if iO f=true then [f] else [])=r.fields.filter iO:=by generalize r.fields=l;induction l with|nil=>rfl|cons a l ih=>simp only[kE,DR,ih];split<;>simp
 have u1:=V9 r hb;try simp at u1
 simp -implicitDefEqProofs [F7,u1,qB,e];all_goals (repeat' split)<;>first|rfl|omega|(simp_all;done)|(simp_all;omega)|skip
end M
namespace M
open Go
variable [Lb]
def Wt(ps:List (ah×ah))(hb:ps.length<=9223372036854775807):bh (aA (ev LI TT) (aB TT) DB) [(0,.row .af 1 (ps.map λx=>eS x.1)),(1,.row .af 1 (ps.map λx=>eS x.2)),(12,.int .i64 ps.length),(13,.int .i64 0)]=if bq kN (ps)=true then some (.exit 0,[(0,.row .af 1 (ps.map λx=>eS x.1)),(1,.row .af 1 (ps.map λx=>eS x.2)),(12,.int .i64 ps.length),(13,.int .i64 ps.length),(14,.bool false)]) else some (.ret,[(4,.bool false)]):=by
 refine iX (f:=aA (ev LI TT) (aB TT) DB) (ps) (λi=>[(0,.row .af 1 (ps.map λx=>eS x.1)),(1,.row .af 1 (ps.map λx=>eS x.2)),(12,.int .i64 ps.length),(13,.int .i64 i)]) kN _ _ (λi b hi hl=>?_) ?_;·have hw:=bY i (by first|omega|(simp at hl;omega));obtain⟨_,rfl⟩:=aQ.1 hi;simp -implicitDefEqProofs [DB,Ns,hl,hw,kN];first|done|(split<;>simp_all)
 ·simp -implicitDefEqProofs [DB,Ns]
def As(a b:List ah)(hb:a.length<=9223372036854775807):ev LI TT 93 [.row .af 1 (a.map eS),.row .af 1 (b.map eS)]=some (.bool (decide (a=b)),[.dead,.dead]):=by
 rw[aE (b:=HZ) (rs:=[.t 4]) (n:=2) rfl rfl];simp -implicitDefEqProofs [HZ];by_cases h:a.length=b.length;·obtain⟨ps,rfl,rfl⟩:=Iw h;have h1:=Wt ps (by simpa using hb);have h2:=Ea ps;simp at h1;cases h3:bq kN ps<;>rw[h3] at h1 h2<;>simp[h1,zS,<-h2]
 ·have:¬a=b:=λe=>h (by rw[e]);simp[this];omega
def XY(q:Rq)(fs:List aM)(h1:q.fields.length<=1073741824)(h2:fs.length<=1073741824):ev LI TT 135 [.agg (dN .af q),.row .af 2 (fs.map aW)]=some (.bool ((wk q fs)),[.dead,.dead]):=by
 rw[aE (b:=yp) (rs:=[.t 4]) (n:=2) rfl rfl];unfold wk;cases e1:dS q.fields yZ with
 |none=>have u1:=nS q.fields yZ (by omega);have u2:=nS fs rX (by omega);rw[e1] at u1;simp at u1 u2;simp -implicitDefEqProofs [yp,u1,u2];try (split<;>simp_all)
 |some a=>
 cases e2:dS fs rX with
 |none=>have u1:=nS q.fields yZ (by omega);have u2:=nS fs rX (by omega);rw[e1] at u1;rw[e2] at u2;simp at u1 u2;simp -implicitDefEqProofs [yp,u1,u2]
 |some b=>
 have u1:=nS q.fields yZ (by omega);try simp at u1
 have u2:=nS fs rX (by omega);try simp at u2
 rw[e1] at u1;rw[e2] at u2;simp at u1 u2;simp -implicitDefEqProofs [yp,u1,u2,eq_comm (a:=b)];all_goals (repeat' split)<;>first|rfl|omega|(simp_all;done)|(simp_all;omega)|skip
def XW(x:Int)(y:Int):ev LI TT 160 [.int .i64 x,.int .i64 y]=some (.int .i64 ((plus x y)),[.dead,.dead]):=by rw[aE (b:=FV) (rs:=[.t 4]) (n:=2) rfl rfl];unfold plus within;have w:=dz (n:=max 0 (min x 1000000)+max 0 (min y 1000000)) (by omega) (by omega);simp -implicitDefEqProofs [FV,w];try omega
def Yn(t:Int)(now:Int)(h1:bI t)(h2:bI now):ev LI TT 161 [.int .i64 t,.int .i64 now]=some (.int .i64 ((since t now)),[.dead,.dead]):=by
 rw[aE (b:=yF) (rs:=[.t 4]) (n:=2) rfl rfl];obtain⟨a1,a2⟩:=h1;obtain⟨b1,b2⟩:=h2;unfold since;by_cases g1:now<=t;·simp -implicitDefEqProofs [yF,g1]
 by_cases g2:now - t<=9223372036854775807
 ·have w2:=dz (n:=now - t) (by omega) (by omega);have w3:¬now - t<0:=by omega
  simp -implicitDefEqProofs [yF,g1,w2,w3];(repeat' split)<;>omega
 have w4:IntKind.i64.wrap (now - t)<0:=by rw[IntKind.wrap_i64];omega
 simp -implicitDefEqProofs [yF,g1,w4];(repeat' split)<;>omega
def OS(fs:List aM)(t:Int)(now:Int)(hb:wL aL fs<=1073741824)(h1:bI t)(h2:bI now):ev LI TT 132 [.row .af 2 (fs.map aW),.int .i64 t,.int .i64 now]=some (.int .i64 ((gU fs t now)),[.dead,.dead,.dead]):=by
 rw[aE (b:=xV) (rs:=[.t 6]) (n:=3) rfl rfl];have hfl:=bg (w:=aL) fs;have hg:=ve fs gJ;have u1:=nS fs gJ (by omega);have u2:=uM ((dS fs gJ).getD []) (by omega);have u3:=Yn t now h1 h2;have u4:=XW (IF fs) (since t now);try simp at u3 u4
 unfold gU;unfold IF at u4⊢;cases e1:dS fs gJ with
 |none=>
  rw[e1] at u1 u2 u4;have e0:cz []=none:=by simp[cz,uw,JE]
  simp[e0] at u1 u2 u4;simp -implicitDefEqProofs [xV,u1,u2,u3,u4]
 |some v=>
 rw[e1] at u1 u2 u4;cases e2:cz v with
 |none=>simp[e2] at u1 u2 u4;simp -implicitDefEqProofs [xV,u1,u2,u3,u4,e2]
 |some n=>
 simp[e2] at u1 u2 u4;simp -implicitDefEqProofs [xV,u1,u2,u3,u4,e2];all_goals (repeat' split)<;>first|rfl|omega|(simp_all;done)|(simp_all;omega)|skip
end M
namespace M
open Go
variable [Lb]
def V3(o:Ob)(hb:wL wS o.values<=1073741824):bh (aA (ev LI TT) (aB TT) Ce) [(1,.ptr .own (cE .af o)),(5,.aj 1 [] 0 2),(6,.row .af 1 (o.values.map eS)),(7,.int .i64 o.values.length),(8,.int .i64 0)]=if bq jA (o.values)=true then some (.exit 0,[(1,.ptr .own (cE .af o)),(5,.aj 1 [] 0 2),(6,.row .af 1 (o.values.map eS)),(7,.int .i64 o.values.length),(8,.int .i64 (o.values).length),(9,.bool false)]) else some (.ret,[(2,.bool false)]):=by
 refine iX (f:=aA (ev LI TT) (aB TT) Ce) (o.values) (λi=>[(1,.ptr .own (cE .af o)),(5,.aj 1 [] 0 2),(6,.row .af 1 (o.values.map eS)),(7,.int .i64 o.values.length),(8,.int .i64 i)]) jA _ _ (λi b hi hl=>?_) ?_
 ·have hw:=bY i (by have:=bg (w:=wS) o.values;omega);obtain⟨_,rfl⟩:=aQ.1 hi;have hm:=Nn (cB hl);have u1:=Jg o.values[i] (by omega);try simp at u1
  simp -implicitDefEqProofs [Ce,K8,hl,hw,u1];all_goals (repeat' split)<;>first|rfl|omega|(simp_all;done)|(simp_all;omega)|skip
 ·simp -implicitDefEqProofs [Ce,K8]
def xl(o:Ob)(hb:aU o<=1073741824):ev LI TT 51 [.agg (cE .af o)]=some (.bool ((dy o)),[.dead]):=by
 rw[aE (b:=nk) (rs:=[.t 2]) (n:=1) rfl rfl];have hw:aU o=o.path.length+wL wS o.names+wL wS o.values+aJ o.resp:=rfl;have dF:aJ o.resp=wL aL o.resp.fields+o.resp.body.length:=rfl;have hn:=bg (w:=wS) o.names;have hv:=bg (w:=wS) o.values;have hvl:=Nl o.resp.fields;unfold dy qk;have u1:=uO o.resp (by omega);try simp at u1
 have u2:=Jl o.path (by omega);try simp at u2
 have u3:=Pk o.names (by omega) (λw hw=>by have:=Nn hw;omega);try simp at u3
 have u4:=Ek o.resp.fields (by omega);try simp at u4
 have u5:=As o.names (eL o.resp.fields) (by omega);try simp at u5
 have u6:=V3 o (by omega);try simp at u6
 by_cases g1:bq jA o.values=true;rotate_left;·simp -implicitDefEqProofs [nk,u1,u2,u3,u4,u5,u6,g1]
 by_cases g2:lg o.path=true;rotate_left;·simp -implicitDefEqProofs [nk,u1,u2,u3,u4,u5,u6,g1,g2]
 by_cases g3:0<=o.t;rotate_left;·simp -implicitDefEqProofs [nk,u1,u2,u3,u4,u5,u6,g1,g2,eq_false g3]
 by_cases g4:o.t<=1000000;rotate_left;·simp -implicitDefEqProofs [nk,u1,u2,u3,u4,u5,u6,g1,g2,eq_true g3,eq_false g4]
 by_cases g8:o.values.length=o.names.length;rotate_left
 ·have xJ:¬(o.values.length:Int)=o.names.length:=by omega
  simp -implicitDefEqProofs [nk,u1,u2,u3,u4,u5,u6,g1,g2,eq_true g3,eq_true g4,eq_false g8,eq_false xJ]
 have xJ:(o.values.length:Int)=o.names.length:=by omega
 by_cases h5:bq gR o.names=true;rotate_left;·simp -implicitDefEqProofs [nk,u1,u2,u3,u4,u5,u6,g1,g2,eq_true g3,eq_true g4,eq_true g8,eq_true xJ,h5]
 by_cases h6:(o.names.length:Int)<=4;rotate_left;·simp -implicitDefEqProofs [nk,u1,u2,u3,u4,u5,u6,g1,g2,eq_true g3,eq_true g4,eq_true g8,eq_true xJ,h5,eq_false h6]
 by_cases h7:fA o.resp=true;rotate_left;·simp -implicitDefEqProofs [nk,u1,u2,u3,u4,u5,u6,g1,g2,eq_true g3,eq_true g4,eq_true g8,eq_true xJ,h5,eq_true h6,h7]
 simp -implicitDefEqProofs [nk,u1,u2,u3,u4,u5,u6,g1,g2,eq_true g3,eq_true g4,eq_true g8,eq_true xJ,h5,eq_true h6,h7];all_goals (repeat' split)<;>first|rfl|omega|(simp_all;done)|(simp_all;omega)|skip
def Eg(b:Bn)(hb:bz b<=1073741824):ev LI TT 53 [.agg (cY b)]=some (.bool ((eX b)),[.dead]):=by
 rw[aE (b:=rF) (rs:=[.t 2]) (n:=1) rfl rfl];have hw:bz b=b.a.length+b.b.length:=rfl;unfold eX;have u1:=Jl b.a (by omega);try simp at u1
 have u2:=Jf b.a (by omega);try simp at u2
 have u3:=Jg b.b (by omega);try simp at u3
 by_cases g1:0<=b.t;rotate_left;·simp -implicitDefEqProofs [rF,u1,u2,u3,eq_false g1]
 by_cases g2:b.t<=1000000;rotate_left;·simp -implicitDefEqProofs [rF,u1,u2,u3,eq_true g1,eq_false g2]
 by_cases h1:b.kind=1;·by_cases h2:lg b.a=true<;>simp -implicitDefEqProofs [rF,u1,u2,u3,eq_true g1,eq_true g2,h1,h2]
 by_cases h2:b.kind=2;·by_cases h3:lg b.a=true<;>simp -implicitDefEqProofs [rF,u1,u2,u3,eq_true g1,eq_true g2,h2,h3]
 by_cases h3:b.kind=3;·by_cases h4:gR b.a=true<;>simp -implicitDefEqProofs [rF,u1,u2,u3,eq_true g1,eq_true g2,h3,h4]
 simp -implicitDefEqProofs [rF,u1,u2,u3,eq_true g1,eq_true g2,h1,h2,h3];all_goals (repeat' split)<;>first|rfl|omega|(simp_all;done)|(simp_all;omega)|skip
@[simp] def alo(t:Int):ev LI TT 98 [.int .i64 t]=some (.bool ((decide (0<=t/\t<=19))),[.dead]):=by rw[aE (b:=Gw) (rs:=[.t 2]) (n:=1) rfl rfl];simp -implicitDefEqProofs [Gw];all_goals (repeat' split)<;>first|rfl|omega|(simp_all;done)|(simp_all;omega)|skip
@[simp] def alp(t:Int):ev LI TT 54 [.int .i64 t]=some (.bool ((decide (5<=t/\t<=19))),[.dead]):=by rw[aE (b:=Gx) (rs:=[.t 2]) (n:=1) rfl rfl];simp -implicitDefEqProofs [Gx];all_goals (repeat' split)<;>first|rfl|omega|(simp_all;done)|(simp_all;omega)|skip
def VT(d:bR)(hb:d.pending.length<=9223372036854775807):bh (aA (ev LI TT) (aB TT) BV) [(1,.ptr .own (gw .af d)),(5,.aj 1 [] 0 1),(6,.row .af 2 (d.pending.map eW)),(7,.int .i64 d.pending.length),(8,.int .i64 0)]=if bq vX (d.pending)=true then some (.exit 0,[(1,.ptr .own (gw .af d)),(5,.aj 1 [] 0 1),(6,.row .af 2 (d.pending.map eW)),(7,.int .i64 d.pending.length),(8,.int .i64 (d.pending).length),(9,.bool false)]) else some (.ret,[(2,.bool false)]):=by
 refine iX (f:=aA (ev LI TT) (aB TT) BV) (d.pending) (λi=>[(1,.ptr .own (gw .af d)),(5,.aj 1 [] 0 1),(6,.row .af 2 (d.pending.map eW)),(7,.int .i64 d.pending.length),(8,.int .i64 i)]) vX _ _ (λi b hi hl=>?_) ?_;·have hw:=bY i (by first|omega|(simp at hl;omega));obtain⟨_,rfl⟩:=aQ.1 hi;simp -implicitDefEqProofs [BV,K2,hl,hw,vX];all_goals (repeat' split)<;>first|rfl|omega|(simp_all;done)|(simp_all;omega)|skip
 ·simp -implicitDefEqProofs [BV,K2]
def Jb(d:bR)(hb:d.pending.length<=9223372036854775807):ev LI TT 55 [.agg (gw .af d)]=some (.bool ((eR d)),[.dead]):=by
 rw[aE (b:=FI) (rs:=[.t 2]) (n:=1) rfl rfl];unfold eR;have u1:=VT d hb;try simp at u1
 simp -implicitDefEqProofs [FI,u1];all_goals (repeat' split)<;>first|rfl|omega|(simp_all;done)|(simp_all;omega)|skip
end M
namespace M
open Go
variable [Lb]
end M
namespace M
open Go
variable [Lb]
def Ya(x k:Kp):ev LI TT 99 [.agg (au .af x),.ptr .af (au .af k)]=some (.bool (decide (x.at_=k.at_)),[.dead,.dead]):=by rw[aE (b:=F5) (rs:=[.t 3]) (n:=2) rfl rfl];simp -implicitDefEqProofs [F5];all_goals (repeat' split)<;>first|rfl|omega|(simp_all;done)|(simp_all;omega)|skip
def Wv(l:List Kp)(k:Kp)(gf:Nat)(p:Kp->Bool)(ho:aB TT gf=true)(hf:∀x∈l,ev LI TT gf [.agg (au .af x),.ptr .af (au .af k)]=some (.bool (p x),[.dead,.dead]))(hb:l.length<=9223372036854775807):bh (aA (ev LI TT) (aB TT) mC) [(0,.row .af 9 (l.map (au .af))),(1,.fn gf [.ptr .af (au .af k)]),(7,.int .i64 l.length),(8,.int .i64 0)]=(cS p 0 (l)).elim (some (.exit 0,[(0,.row .af 9 (l.map (au .af))),(1,.fn gf [.ptr .af (au .af k)]),(7,.int .i64 l.length),(8,.int .i64 (l).length),(9,.bool false)])) λx=>some (.ret,(λ(i:Nat) b=>[(4,.int .i64 i)]) x.1 x.2):=by
 refine vN (f:=aA (ev LI TT) (aB TT) mC) (l) (λi=>[(0,.row .af 9 (l.map (au .af))),(1,.fn gf [.ptr .af (au .af k)]),(7,.int .i64 l.length),(8,.int .i64 i)]) p (λ(i:Nat) b=>[(4,.int .i64 i)]) _ (λi b hi hl=>?_) ?_
 ·have hw:=bY i (by first|omega|(simp at hl;omega));obtain⟨_,rfl⟩:=aQ.1 hi;have u1:=hf l[i] (cB hl);try simp at u1
  simp -implicitDefEqProofs [mC,wG,hl,hw,u1,ho,lW];all_goals (repeat' split)<;>first|rfl|omega|(simp_all;done)|(simp_all;omega)|skip
 ·simp -implicitDefEqProofs [mC,wG]
def Yz(l:List Kp)(k:Kp)(gf:Nat)(p:Kp->Bool)(ho:aB TT gf=true)(hf:∀x∈l,ev LI TT gf [.agg (au .af x),.ptr .af (au .af k)]=some (.bool (p x),[.dead,.dead]))(hb:l.length<=9223372036854775807):ev LI TT 125 [.row .af 9 (l.map (au .af)),.fn gf [.ptr .af (au .af k)]]=some (.int .i64 ((cS p 0 l).elim (-1) λx=>(x.1:Int)),[.dead,.dead]):=by
 rw[aE (b:=oV) (rs:=[.t 4]) (n:=2) rfl rfl];have u1:=Wv l k gf p ho hf hb;try simp at u1
 cases g:cS p 0 l with
 |none=>rw[g] at u1;simp at u1;simp -implicitDefEqProofs [oV,u1]
 |some x=>
 rw[g] at u1;simp at u1;simp -implicitDefEqProofs [oV,u1];all_goals (repeat' split)<;>first|rfl|omega|(simp_all;done)|(simp_all;omega)|skip
def Jm(l:List Kp)(k:Kp)(gf:Nat)(p:Kp->Bool)(ho:aB TT gf=true)(hf:∀x∈l,ev LI TT gf [.agg (au .af x),.ptr .af (au .af k)]=some (.bool (p x),[.dead,.dead]))(hb:l.length<=9223372036854775807):ev LI TT 75 [.row .af 9 (l.map (au .af)),.fn gf [.ptr .af (au .af k)]]=some (.bool (!bq (λx=> !p x) l),[.dead,.dead]):=by
 rw[aE (b:=Dx) (rs:=[.t 4]) (n:=2) rfl rfl];have u1:=Yz l k gf p ho hf hb;try simp at u1
 rw[<-QI p l 0];cases g:cS p 0 l with
 |none=>rw[g] at u1;simp at u1;simp -implicitDefEqProofs [Dx,u1]
 |some x=>
 rw[g] at u1;simp at u1;simp -implicitDefEqProofs [Dx,u1];all_goals (repeat' split)<;>first|rfl|omega|(simp_all;done)|(simp_all;omega)|skip
def Wn(s:Sh)(hb:cx s<=1073741824):∃sl,bh (aA (ev LI TT) (aB TT) ou) [(0,.ptr .af (bp .af s)),(3,.int .i64 0),(7,.ptr .af (bp .af s)),(8,.ptr .af (bp .af s)),(9,.ptr .af ((bp .af s).drop 2)),(10,.row .af 9 (s.aC.map (au .af))),(11,.int .i64 s.aC.length),(12,.int .i64 0)]=if uj s.seq s.aC=true then some (.exit 0,sl) else some (.ret,[(2,.bool false)]):=by
 have iK:cx s=dm s.aP+wL cQ s.aC+wL bz s.aG:=rfl;have hlen:=bg (w:=cQ) s.aC;refine⟨_,iX (f:=aA (ev LI TT) (aB TT) ou) s.aC.zipIdx (λi=>[(0,.ptr .af (bp .af s)),(3,.int .i64 (nD s.aC i)),(7,.ptr .af (bp .af s)),(8,.ptr .af (bp .af s)),(9,.ptr .af ((bp .af s).drop 2)),(10,.row .af 9 (s.aC.map (au .af))),(11,.int .i64 s.aC.length),(12,.int .i64 i)]) (yL s.seq s.aC) [(2,.bool false)] [(0,.ptr .af (bp .af s)),(3,.int .i64 (nD s.aC s.aC.length)),(7,.ptr .af (bp .af s)),(8,.ptr .af (bp .af s)),(9,.ptr .af ((bp .af s).drop 2)),(10,.row .af 9 (s.aC.map (au .af))),(11,.int .i64 s.aC.length),(12,.int .i64 s.aC.length),(13,.bool false)] (λi b hi hl=>?_) ?_⟩
 ·simp only[Om] at hl;have hw:=bY i (by omega);obtain⟨_,rfl⟩:=aQ.1 hi;have hz:s.aC.zipIdx[i]'(by simpa using hl)=(s.aC[i],i):=by simp
  have hm:=sy (cB hl);have hp:=Mz s.aC i hl;rw[hz];have hs:ek []=true:=rfl;have u1:=xl s.aC[i].obj (by omega);have u2:=Jm (s.aC.take i) s.aC[i] 99 (λx=>decide (x.at_=(s.aC[i]).at_)) rfl (λx _=>Ya x s.aC[i]) (by simp;omega);have hle:(i:Int)<=s.aC.length:=by omega
  have hle2:i<=s.aC.length:=by omega
  simp at u1 u2;unfold yL;by_cases g1:dy (s.aC[i]).obj=true;rotate_left;·simp -implicitDefEqProofs [ou,rO,hl,hw,hle,hle2,gN,fy,e9,u1,u2,g1]
  by_cases g2:5<=(s.aC[i]).at_;rotate_left;·simp -implicitDefEqProofs [ou,rO,hl,hw,hle,hle2,gN,fy,e9,u1,u2,g1,eq_false g2]
  by_cases g3:(s.aC[i]).at_<=19;rotate_left;·simp -implicitDefEqProofs [ou,rO,hl,hw,hle,hle2,gN,fy,e9,u1,u2,g1,eq_true g2,eq_false g3]
  by_cases g4:bq (λy:Kp=> !decide (y.at_=(s.aC[i]).at_)) (s.aC.take i)=true;rotate_left;·simp -implicitDefEqProofs [ou,rO,hl,hw,hle,hle2,gN,fy,e9,u1,u2,g1,eq_true g2,eq_true g3,g4]
  by_cases g5:nD s.aC i<(s.aC[i]).seq;rotate_left
  ·have EZ:(s.aC[i]).seq<=nD s.aC i:=by omega
   simp -implicitDefEqProofs [ou,rO,hl,hw,hle,hle2,gN,fy,e9,u1,u2,g1,eq_true g2,eq_true g3,g4,eq_false g5,eq_true EZ]
  have EZ:¬(s.aC[i]).seq<=nD s.aC i:=by omega
  by_cases g6:(s.aC[i]).seq<s.seq;rotate_left
  ·have J1:s.seq<=(s.aC[i]).seq:=by omega
   simp -implicitDefEqProofs [ou,rO,hl,hw,hle,hle2,gN,fy,e9,u1,u2,g1,eq_true g2,eq_true g3,g4,eq_true g5,eq_false EZ,eq_false g6,eq_true J1]
  have J1:¬s.seq<=(s.aC[i]).seq:=by omega
  simp -implicitDefEqProofs [ou,rO,hl,hw,hle,hle2,gN,fy,e9,u1,u2,g1,eq_true g2,eq_true g3,g4,eq_true g5,eq_false EZ,eq_true g6,eq_false J1,hp]
 ·simp -implicitDefEqProofs [ou,rO]
def X9(s:Sh)(hb:cx s<=1073741824):ev LI TT 56 [.ptr .af (bp .af s)]=some (.bool (uj s.seq s.aC),[.dead]):=by rw[aE (b:=F6) (rs:=[.t 2]) (n:=1) rfl rfl];obtain⟨sl,u1⟩:=Wn s hb;simp at u1;simp -implicitDefEqProofs [F6,u1];all_goals (repeat' split)<;>first|rfl|omega|(simp_all;done)|(simp_all;omega)|skip
def V7(s:Sh)(hb:cx s<=1073741824):bh (aA (ev LI TT) (aB TT) Cm) [(1,.ptr .own (bp .af s)),(5,.aj 1 [] 0 3),(6,.row .af 4 (s.aG.map cY)),(7,.int .i64 s.aG.length),(8,.int .i64 0)]=if bq eX (s.aG)=true then some (.exit 0,[(1,.ptr .own (bp .af s)),(5,.aj 1 [] 0 3),(6,.row .af 4 (s.aG.map cY)),(7,.int .i64 s.aG.length),(8,.int .i64 (s.aG).length),(9,.bool false)]) else some (.ret,[(2,.bool false)]):=by
 refine iX (f:=aA (ev LI TT) (aB TT) Cm) (s.aG) (λi=>[(1,.ptr .own (bp .af s)),(5,.aj 1 [] 0 3),(6,.row .af 4 (s.aG.map cY)),(7,.int .i64 s.aG.length),(8,.int .i64 i)]) eX _ _ (λi b hi hl=>?_) ?_
 ·have hw:=bY i (by have iK:cx s=dm s.aP+wL cQ s.aC+wL bz s.aG:=rfl;have:=bg (w:=bz) s.aG;omega);obtain⟨_,rfl⟩:=aQ.1 hi;have iK:cx s=dm s.aP+wL cQ s.aC+wL bz s.aG:=rfl;have hm:=UF (cB hl);have u1:=Eg s.aG[i] (by omega);try simp at u1
  simp -implicitDefEqProofs [Cm,Ld,hl,hw,u1];all_goals (repeat' split)<;>first|rfl|omega|(simp_all;done)|(simp_all;omega)|skip
 ·simp -implicitDefEqProofs [Cm,Ld]
def X1(s:Sh)(hb:cx s<=1073741824):ev LI TT 29 [.agg (bp .af s)]=some (.bool ((eT s)),[.dead]):=by
 rw[aE (b:=oq) (rs:=[.t 2]) (n:=1) rfl rfl];have iK:cx s=dm s.aP+wL cQ s.aC+wL bz s.aG:=rfl;have adN:dm s.aP=wL wS s.aP.cells+wL fC s.aP.pending:=rfl;have hlen:=bg (w:=fC) s.aP.pending;unfold eT;have u1:=Jb s.aP (by omega);try simp at u1
 have u2:=V7 s hb;try simp at u2
 have u3:=X9 s hb;try simp at u3
 by_cases g1:bq eX s.aG=true;rotate_left;·simp -implicitDefEqProofs [oq,u1,u2,u3,g1]
 by_cases g2:(s.aG.length:Int)<=5;rotate_left;·simp -implicitDefEqProofs [oq,u1,u2,u3,g1,eq_false g2]
 by_cases g3:5<=s.next
 rotate_left;·simp -implicitDefEqProofs [oq,u1,u2,u3,g1,eq_true g2,eq_false g3]
 by_cases g4:s.next<=19
 rotate_left;·simp -implicitDefEqProofs [oq,u1,u2,u3,g1,eq_true g2,eq_true g3,eq_false g4]
 by_cases g5:1<=s.seq;rotate_left;·simp -implicitDefEqProofs [oq,u1,u2,u3,g1,eq_true g2,eq_true g3,eq_true g4,eq_false g5]
 by_cases g6:s.seq<=100000;rotate_left;·simp -implicitDefEqProofs [oq,u1,u2,u3,g1,eq_true g2,eq_true g3,eq_true g4,eq_true g5,eq_false g6]
 by_cases g7:eR s.aP=true;rotate_left;·simp -implicitDefEqProofs [oq,u1,u2,u3,g1,eq_true g2,eq_true g3,eq_true g4,eq_true g5,eq_true g6,g7]
 simp -implicitDefEqProofs [oq,u1,u2,u3,g1,eq_true g2,eq_true g3,eq_true g4,eq_true g5,eq_true g6,g7];all_goals (repeat' split)<;>first|rfl|omega|(simp_all;done)|(simp_all;omega)|skip
end M
set_option maxHeartbeats 4000000
namespace M
open Go
variable [Lb]
def Qt(l:List aM):(kP l).length<=4*wL aL l:=by
 unfold kP;induction l with
 |nil=>simp[wL]
 |cons f l ih=>simp only[kE,gT,wL,di,bC,Ih,JN,aL,jE] at*;omega
def SA:(⟨#[13,10]⟩:ByteArray)=⟨crlf.toArray⟩:=rfl
def aev:(⟨#[72,84,84,80,47,49,46,49,32]⟩:ByteArray)=⟨(qn++[32]).toArray⟩:=rfl
def aes:(⟨#[32,46]⟩:ByteArray)=⟨([32,46]:ah).toArray⟩:=rfl
def aer:(⟨#[99,111,110,116,101,110,116,45,108,101,110,103,116,104,58,32]⟩:ByteArray)=⟨(fI++colon).toArray⟩:=rfl
def aet:(⟨#[111,98,106,32]⟩:ByteArray)=⟨(ql++[32]).toArray⟩:=rfl
def aeu:(⟨#[32]⟩:ByteArray)=⟨([32]:ah).toArray⟩:=rfl
def SB:(⟨#[10]⟩:ByteArray)=⟨([10]:ah).toArray⟩:=rfl
def Mc:colon.length=2:=rfl
def Me:crlf.length=2:=rfl
def aew:ck.length=4:=rfl
def SC:qn.length=8:=rfl
def Mb:fI.length=14:=rfl
def Mf:ql.length=3:=rfl
def QU{β:Type}(f:β->ah):∀(l:List β) (i:Nat) (g:ah),foldI (λ_ g b=>g++f b) i l g=g++l.flatMap f
 |[],_,g=>by simp[foldI]
 |b::l,i,g=>by rw[foldI,QU f l];simp
structure WA (r:aV):Prop where
 s0:100<=r.status
 s1:r.status<=599
 f:mQ r.fields=true
 b:r.body.length<=120
 nt:dn r.status=bJ r.status.toNat
 nb:dn (r.body.length:Int)=bJ r.body.length
 ls:(bJ r.status.toNat).length<=7
 lb:(bJ r.body.length).length<=7
 Uw:jv r=qn++32::(bJ r.status.toNat++32::46::(crlf++(kP r.fields++(fI++(colon++(bJ r.body.length++(ck++r.body)))))))
def MI{r:aV}(h:fA r=true):WA r:=by
 obtain⟨h1,h2,h3⟩:=TD h;refine⟨h1.1,h1.2,h2,h3,?_,?_,qY _ (by omega),qY _ (by omega),?_⟩;·unfold dn;rw[aq (by omega)]
 ·exact SX _ (by omega)
 ·unfold jv;rw[aq h,TO];simp[mo,nr,colon]
def Yj(b:ah)(hb:b.length<=1000000):ev LI TT 168 [.str ⟨b.toArray⟩]=some (.str ⟨(fI++(colon++(bJ b.length++crlf))).toArray⟩,[.dead]):=by
 rw[aE (b:=Gz) (rs:=[.t 2]) (n:=1) rfl rfl];have l7:=qY b.length hb;have u1:=uQ b.length (by omega);try simp at u1
 simp -implicitDefEqProofs [Gz,u1,aer,SA,sn,Mb,Mc,Me];all_goals (try omega)
def O6(r:aV)(hb:aJ r<=1073741824):ev LI TT 146 [.agg (cF .af r)]=some (.str ⟨(jv r).toArray⟩,[.dead]):=by
 rw[aE (b:=Cj) (rs:=[.t 2]) (n:=1) rfl rfl];have hw:aJ r=wL aL r.fields+r.body.length:=rfl;have hfl:=Qt r.fields;have tC:=bg (w:=aL) r.fields;have hft:=XK r.fields (by omega) (by omega);have u1:=uO r hb;try simp at u1
 by_cases hok:fA r=true;rotate_left;·have e:jv r=[]:=(TF r).2 hok;rw[show fA r=false by simpa using hok] at u1;simp -implicitDefEqProofs [Cj,u1,e]
 rw[hok] at u1;have A:=MI hok;have a0:=A.s0;have a0':=A.s1;have a1:=A.ls;have a2:=A.lb;have a3:=A.b;have hst:r.status=((r.status.toNat:Nat):Int):=by omega
 have u2:=uQ r.status.toNat (by omega);rw[<-hst] at u2;have u3:=Yj r.body (by omega);try simp at hft
 try simp at u2
 try simp at u3
 rw[A.Uw];generalize kP r.fields=T at hft hfl;generalize bJ r.status.toNat=D at u2 a1;generalize bJ r.body.length=E at u3 a2;simp -implicitDefEqProofs [Cj,u1,hft,u2,u3,aev,aes,SA,sn,SC,Me,Mb,Mc];refine⟨by omega,by omega,by omega,by omega,by omega,by omega,by omega,?_⟩;simp[crlf,ck]
def Uz(l:List ah):(nG l).length<=2*wL wS l:=by
 unfold nG;induction l with
 |nil=>simp[wL]
 |cons v l ih=>simp only[kE,gT,wL,di,bC,Ih,wS,jE] at*;omega
def TR(r:aV):(jv r).length<=4*aJ r+60:=by
 by_cases h:fA r=true;·have A:=MI h;have hfl:=Qt r.fields;have a1:=A.ls;have a2:=A.lb;rw[A.Uw];have hw:aJ r=wL aL r.fields+r.body.length:=rfl;simp[SC,Me,Mb,Mc,aew];omega
 ·rw[(TF r).2 h];simp
def V4(o:Ob)(hb:aU o<=1073741824)(g:ah)(hinv:g.length<=9223372036+2*(wL wS (o.values.take 0))):bh (aA (ev LI TT) (aB TT) Cg) [(1,.ptr .own (cE .af o)),(3,.str ⟨(g).toArray⟩),(24,.aj 1 [] 0 2),(25,.row .af 1 (o.values.map eS)),(26,.int .i64 o.values.length),(27,.int .i64 0)]=some (.exit 0,[(1,.ptr .own (cE .af o)),(3,.str ⟨((foldI (λ_ g v=>g++(v++[10])) 0 (o.values) g)).toArray⟩),(24,.aj 1 [] 0 2),(25,.row .af 1 (o.values.map eS)),(26,.int .i64 o.values.length),(27,.int .i64 (o.values).length),(28,.bool false)]):=by
 refine nu (f:=aA (ev LI TT) (aB TT) Cg) (o.values) (λi (g:ah)=>[(1,.ptr .own (cE .af o)),(3,.str ⟨(g).toArray⟩),(24,.aj 1 [] 0 2),(25,.row .af 1 (o.values.map eS)),(26,.int .i64 o.values.length),(27,.int .i64 i)]) (λ_ g v=>g++(v++[10])) (λg=>[(1,.ptr .own (cE .af o)),(3,.str ⟨(g).toArray⟩),(24,.aj 1 [] 0 2),(25,.row .af 1 (o.values.map eS)),(26,.int .i64 o.values.length),(27,.int .i64 (o.values).length),(28,.bool false)]) (λi (g:ah)=>g.length<=9223372036+2*(wL wS (o.values.take i))) g hinv (λi b g hi hl hinv=>?_) (λi b g hi hinv=>?_) (λg hinv=>?_);·have hw:=bY i (by have hw:aU o=o.path.length+wL wS o.names+wL wS o.values+aJ o.resp:=rfl;have:=bg (w:=wS) o.values;omega);obtain⟨_,rfl⟩:=aQ.1 hi;have hw0:aU o=o.path.length+wL wS o.names+wL wS o.values+aJ o.resp:=rfl;have hm:=Nn (cB hl);have ht:=UM wS o.values i;simp -implicitDefEqProofs [Cg,La,hl,hw,SB,sn];all_goals (try omega)
 ·obtain⟨hl,rfl⟩:=aQ.1 hi;rw[uz hl];simp only[wL,gT,kF,List.sum_append,di,jE,bC,jF,Ih,List.sum_nil,wS] at*;omega
 ·simp -implicitDefEqProofs [Cg,La]
def O4(o:Ob)(hb:aU o<=1073741824):ev LI TT 109 [.agg (cE .af o)]=some (.str ⟨(fJ o).toArray⟩,[.dead]):=by
 rw[aE (b:=Ch) (rs:=[.t 2]) (n:=1) rfl rfl];have hw:aU o=o.path.length+wL wS o.names+wL wS o.values+aJ o.resp:=rfl;have hrl:=TR o.resp;have hvl:=Uz o.values;have hvn:=bg (w:=wS) o.values;have hft:=O6 o.resp (by omega);have u1:=xl o (by omega);try simp at u1
 have u2:=Ei o.t;try simp at u2
 have u3:=uQ o.values.length (by omega);try simp at u3
 by_cases hok:dy o=true;rotate_left;·have e:fJ o=[]:=(S2 o).2 hok;rw[show dy o=false by simpa using hok] at u1;simp -implicitDefEqProofs [Ch,u1,e]
 rw[hok] at u1;have A:=Hq hok;have a1:=A.len;have a2:=A.n4;have a3:=vV o.t;have a4:=qY o.values.length (by omega);have et:fJ o=ql++32::(o.path++32::(dn o.t++32::(bJ o.values.length++10::(nG o.values++jv o.resp)))):=by unfold fJ qp uh jv;rw[aq hok,aq A.resp];simp
 have hlp:=V4 o hb (ql++32::(o.path++32::(dn o.t++32::(bJ o.values.length++[10])))) (by simp[Mf];omega);rw[QU,show o.values.flatMap (λv=>v++[10])=nG o.values from rfl] at hlp;try simp at hlp
 try simp at hft
 rw[et];generalize jv o.resp=R at hft hrl;generalize bJ o.values.length=E at u3 a4 hlp;generalize nG o.values=V at hvl hlp;simp -implicitDefEqProofs [Ch,u1,u2,u3,hft,hlp,aet,aeu,SB,sn,Mf];all_goals (try omega)
end M
set_option maxHeartbeats 4000000
namespace M
open Go
variable [Lb]
def acj(fs:List aM)(n v:ah):(decide (dS fs n=some v))=((dS fs n).isSome && decide ((dS fs n).getD []=v)):=by cases dS fs n<;>simp
def XM(b:Bn)(o:Ob)(h1:bz b<=1073741824)(h2:aU o<=1073741824):ev LI TT 86 [.agg (cY b),.agg (cE .af o)]=some (.bool (vh b o),[.dead,.dead]):=by
 rw[aE (b:=rM) (rs:=[.t 4]) (n:=2) rfl rfl];have hw:bz b=b.a.length+b.b.length:=rfl;have dF:aU o=o.path.length+wL wS o.names+wL wS o.values+aJ o.resp:=rfl;have oa:aJ o.resp=wL aL o.resp.fields+o.resp.body.length:=rfl;have l1:=bg (w:=aL) o.resp.fields;unfold vh;rw[acj,show b.a.isPrefixOf o.path=Lib.hasPrefix o.path b.a from rfl];have u1:=Eg b h1;try simp at u1
 have u2:=xl o (by omega);try simp at u2
 have u3:=nS o.resp.fields b.a (by omega);try simp at u3
 have u4:=YF o.path b.a;try simp at u4
 by_cases g1:o.t<=b.t;rotate_left
 ·have mV:b.t<o.t:=by omega
  simp -implicitDefEqProofs [rM,u1,u2,g1,mV]
 have mV:¬b.t<o.t:=by omega
 generalize eX b=b1 at u1;cases b1;·simp -implicitDefEqProofs [rM,u1,g1,mV]
 generalize dy o=b2 at u2;cases b2;·simp -implicitDefEqProofs [rM,u1,u2,g1,mV]
 by_cases g2:b.kind=1;·rw[g2] at u1;simp -implicitDefEqProofs [rM,u1,u2,g1,mV,g2]
 by_cases g3:b.kind=2;·rw[g3] at u1;simp -implicitDefEqProofs [rM,u1,u2,u4,g1,mV,g2,g3]
 generalize (dS o.resp.fields b.a).isSome=b3 at u3;cases b3;all_goals
 simp -implicitDefEqProofs [rM,u1,u2,u3,u4,g1,mV,g2,g3];all_goals (repeat' split)<;>first|rfl|omega|(simp_all;done)|(simp_all;omega)|skip
def ac6(l:List Bn)(o:Ob):bq (λb=> !vh b o) l= !fT l o:=by
 unfold fT bq;induction l with
 |nil=>rfl
 |cons b l ih=>simp only[List.all_cons,List.any_cons,ih,Bool.not_or]
def VX(l:List Bn)(o:Ob)(h1:wL bz l<=1073741824)(h2:aU o<=1073741824):bh (aA (ev LI TT) (aB TT) B0) [(0,.row .af 4 (l.map cY)),(3,.ptr .own (cE .af o)),(7,.row .af 4 (l.map cY)),(8,.int .i64 l.length),(9,.int .i64 0)]=if bq (λb=> !vh b o) (l)=true then some (.exit 0,[(0,.row .af 4 (l.map cY)),(3,.ptr .own (cE .af o)),(7,.row .af 4 (l.map cY)),(8,.int .i64 l.length),(9,.int .i64 (l).length),(10,.bool false)]) else some (.ret,[(4,.bool true)]):=by
 refine iX (f:=aA (ev LI TT) (aB TT) B0) (l) (λi=>[(0,.row .af 4 (l.map cY)),(3,.ptr .own (cE .af o)),(7,.row .af 4 (l.map cY)),(8,.int .i64 l.length),(9,.int .i64 i)]) (λb=> !vh b o) _ _ (λi b hi hl=>?_) ?_
 ·have hw:=bY i (by have:=bg (w:=bz) l;omega);obtain⟨_,rfl⟩:=aQ.1 hi;have hm:=UF (cB hl);have u1:=XM l[i] o (by omega) h2;try simp at u1
  cases hh:vh l[i] o<;>rw[hh] at u1;all_goals
  simp -implicitDefEqProofs [B0,K5,hl,hw,u1,hh];all_goals (repeat' split)<;>first|rfl|omega|(simp_all;done)|(simp_all;omega)|skip
 ·simp -implicitDefEqProofs [B0,K5]
def xk(l:List Bn)(o:Ob)(h1:wL bz l<=1073741824)(h2:aU o<=1073741824):ev LI TT 46 [.row .af 4 (l.map cY),.agg (cE .af o)]=some (.bool (fT l o),[.dead,.dead]):=by
 rw[aE (b:=FO) (rs:=[.t 4]) (n:=2) rfl rfl];have u1:=VX l o h1 h2;try simp at u1
 rw[ac6] at u1;cases hh:fT l o<;>rw[hh] at u1;all_goals try simp at u1
 all_goals
 simp -implicitDefEqProofs [FO,u1];all_goals (repeat' split)<;>first|rfl|omega|(simp_all;done)|(simp_all;omega)|skip
end M
namespace M
open Go
variable [Lb]
def wC(fs:List aM)(n:ah):ah:=(dS fs n).getD [45]
def valuesOf(ns:List ah)(fs:List aM):List ah:=ns.map (wC fs)
def UA(ns:List ah)(fs:List aM):(valuesOf ns fs).length=ns.length:=by simp[valuesOf]
def Wd(ns:List ah)(fs:List aM)(hb:ns.length<=1073741824)(hf:fs.length<=9223372036854775807):bh (aA (ev LI TT) (aB TT) Cu) [(0,.row .af 1 (ns.map eS)),(1,.row .af 2 (fs.map aW)),(5,.row .own 1 (([]).map eS)),(10,.row .af 1 (ns.map eS)),(11,.int .i64 ns.length),(12,.int .i64 0)]=some (.exit 0,[(0,.row .af 1 (ns.map eS)),(1,.row .af 2 (fs.map aW)),(5,.row .own 1 ((((ns).flatMap (λn=>[wC fs n]))).map eS)),(10,.row .af 1 (ns.map eS)),(11,.int .i64 ns.length),(12,.int .i64 (ns).length),(13,.bool false)]):=by
 refine tZ (f:=aA (ev LI TT) (aB TT) Cu) (ns) (λn=>[wC fs n]) (λi out=>[(0,.row .af 1 (ns.map eS)),(1,.row .af 2 (fs.map aW)),(5,.row .own 1 ((out).map eS)),(10,.row .af 1 (ns.map eS)),(11,.int .i64 ns.length),(12,.int .i64 i)]) (λout=>[(0,.row .af 1 (ns.map eS)),(1,.row .af 2 (fs.map aW)),(5,.row .own 1 ((out).map eS)),(10,.row .af 1 (ns.map eS)),(11,.int .i64 ns.length),(12,.int .i64 (ns).length),(13,.bool false)]) (λi b out hi hl hout=>?_) (λout hout=>?_)
 ·have hw:=bY i (by first|omega|(simp at hl;omega));obtain⟨_,rfl⟩:=aQ.1 hi;have h:=nS fs ns[i] hf;have hlo:out.length=i:=by rw[hout];exact xI _ _ _ (by omega)
  have hlz:(i+1)*16<=140737488355328:=by omega
  unfold wC;cases g:dS fs ns[i]<;>rw[g] at h;all_goals
  simp -implicitDefEqProofs [Cu,Lq,hl,hw,h,hlo,hlz,cZ]
 ·simp -implicitDefEqProofs [Cu,Lq]
def Pf(ns:List ah)(fs:List aM)(hb:ns.length<=1073741824)(hf:fs.length<=9223372036854775807):ev LI TT 107 [.row .af 1 (ns.map eS),.row .af 2 (fs.map aW)]=some (.row .own 1 ((valuesOf ns fs).map eS),[.dead,.dead]):=by
 rw[aE (b:=Ge) (rs:=[.t 4]) (n:=2) rfl rfl];have u1:=Wd ns fs hb hf;try simp at u1
 rw[JT,show ns.map (λn=>wC fs n)=valuesOf ns fs from rfl] at u1;simp -implicitDefEqProofs [Ge,u1];all_goals (repeat' split)<;>first|rfl|omega|(simp_all;done)|(simp_all;omega)|skip
def MY(ns:List ah):Bool:=(cS (λn=>decide (n=[42])) 0 ns).isSome
def Ww(ns:List ah)(s:ah)(hb:ns.length<=9223372036854775807):bh (aA (ev LI TT) (aB TT) DI) [(0,.row .af 1 (ns.map eS)),(1,.str ⟨s.toArray⟩),(7,.int .i64 ns.length),(8,.int .i64 0)]=(cS (λn=>decide (n=s)) 0 (ns)).elim (some (.exit 0,[(0,.row .af 1 (ns.map eS)),(1,.str ⟨s.toArray⟩),(7,.int .i64 ns.length),(8,.int .i64 (ns).length),(9,.bool false)])) λx=>some (.ret,(λ(i:Nat) b=>[(4,.int .i64 i)]) x.1 x.2):=by
 refine vN (f:=aA (ev LI TT) (aB TT) DI) (ns) (λi=>[(0,.row .af 1 (ns.map eS)),(1,.str ⟨s.toArray⟩),(7,.int .i64 ns.length),(8,.int .i64 i)]) (λn=>decide (n=s)) (λ(i:Nat) b=>[(4,.int .i64 i)]) _ (λi b hi hl=>?_) ?_;·have hw:=bY i (by first|omega|(simp at hl;omega));obtain⟨_,rfl⟩:=aQ.1 hi;simp -implicitDefEqProofs [DI,Nv,hl,hw,eq_comm (a:=s)]
 ·simp -implicitDefEqProofs [DI,Nv]
def YA(ns:List ah)(s:ah)(hb:ns.length<=9223372036854775807):ev LI TT 162 [.row .af 1 (ns.map eS),.str ⟨s.toArray⟩]=some (.int .i64 (((cS (λn=>decide (n=s)) 0 ns).elim (-1) λx=>(x.1:Int))),[.dead,.dead]):=by
 rw[aE (b:=DJ) (rs:=[.t 4]) (n:=2) rfl rfl];have u1:=Ww ns s hb;try simp at u1
 cases g:cS (λn=>decide (n=s)) 0 ns with
 |none=>rw[g] at u1;simp at u1;simp -implicitDefEqProofs [DJ,u1]
 |some x=>
 rw[g] at u1;simp at u1;simp -implicitDefEqProofs [DJ,u1];all_goals (repeat' split)<;>first|rfl|omega|(simp_all;done)|(simp_all;omega)|skip
def Yw(ns:List ah)(s:ah)(hb:ns.length<=9223372036854775807):ev LI TT 134 [.row .af 1 (ns.map eS),.str ⟨s.toArray⟩]=some (.bool ((cS (λn=>decide (n=s)) 0 ns).isSome),[.dead,.dead]):=by
 rw[aE (b:=Dy) (rs:=[.t 4]) (n:=2) rfl rfl];have u1:=YA ns s hb;try simp at u1
 cases g:cS (λn=>decide (n=s)) 0 ns with
 |none=>rw[g] at u1;simp at u1;simp -implicitDefEqProofs [Dy,u1]
 |some x=>
 rw[g] at u1;simp at u1;simp -implicitDefEqProofs [Dy,u1];all_goals (repeat' split)<;>first|rfl|omega|(simp_all;done)|(simp_all;omega)|skip
def qC(ns vs:List ah)(fs:List aM):Bool:= !MY ns && decide (valuesOf ns fs=vs)
def Je(ns:List ah)(vs:List ah)(fs:List aM)(hb:ns.length<=1073741824)(hv:vs.length<=1073741824)(hf:fs.length<=9223372036854775807):ev LI TT 82 [.row .af 1 (ns.map eS),.row .af 1 (vs.map eS),.row .af 2 (fs.map aW)]=some (.bool (qC ns vs fs),[.dead,.dead,.dead]):=by
 rw[aE (b:=Ga) (rs:=[.t 6]) (n:=3) rfl rfl];have u1:=Yw ns [42] (by omega);try simp at u1
 have u2:=Pf ns fs hb hf;try simp at u2
 have u3:=As (valuesOf ns fs) vs (by rw[UA];omega);try simp at u3
 rw[show (cS (λn:ah=>decide (n=[42])) 0 ns).isSome=MY ns from rfl] at u1;unfold qC;cases g:MY ns<;>rw[g] at u1;all_goals
 simp -implicitDefEqProofs [Ga,u1,u2,u3];all_goals (repeat' split)<;>first|rfl|omega|(simp_all;done)|(simp_all;omega)|skip
end M
set_option maxHeartbeats 4000000
namespace M
open Go
variable [Lb]
def Ar(o:Ob)(hb:aU o<=1073741824):ev LI TT 33 [.agg (cE .af o)]=some (.agg (cE .own o),[.dead]):=by
 rw[aE (b:=Gl) (rs:=[.c 2 7 true 60]) (n:=1) rfl rfl];have hw:aU o=o.path.length+wL wS o.names+wL wS o.values+aJ o.resp:=rfl;have dF:aJ o.resp=wL aL o.resp.fields+o.resp.body.length:=rfl;have l1:=bg (w:=aL) o.resp.fields;have l2:=bg (w:=wS) o.names;have l3:=bg (w:=wS) o.values;have u1:=pq o.resp (by omega);try simp at u1
 have u2:=GP o.names (by omega);try simp at u2
 have u3:=GP o.values (by omega);try simp at u3
 simp -implicitDefEqProofs [Gl,u1,u2,u3];all_goals (repeat' split)<;>first|rfl|omega|(simp_all;done)|(simp_all;omega)|skip
def QH(s:Sh)(q:Rq)(k:Kp):Bool:=decide (k.obj.path=q.path) && qC k.obj.names k.obj.values q.fields && !fT s.aG k.obj
def AM(s:Sh)(q:Rq):Option Ob:=(s.aC.reverse.find? (QH s q)).map λk=>k.obj
def fS(s:Sh)(q:Rq):Option Ob:=if eT s=true then AM s q else none
def eM:Ob:=⟨[],[],[],⟨0,[],[]⟩,0⟩
end M
set_option maxHeartbeats 4000000
namespace M
open Go
variable [Lb]
structure Cc where
 ns:Bool
 nc:Bool
 pr:Bool
 mu:Bool
 ha:Bool
 w8:Int
@[simp] def mO(c:Cc):List X:=[.bool c.ns,.bool c.nc,.bool c.pr,.bool c.mu,.bool c.ha,.int .i64 c.w8]
def pE:Cc:=⟨false,false,false,false,false,0⟩
def Hi:ah:=[110,111,45,115,116,111,114,101]
def Hh:ah:=[110,111,45,99,97,99,104,101]
def Hj:ah:=[112,114,105,118,97,116,101]
def Hg:ah:=[109,117,115,116,45,114,101,118,97,108,105,100,97,116,101]
def y8:ah:=[109,97,120,45,97,103,101,61]
def Pz(w:ah):Option Nat:=if Lib.hasPrefix w y8=true then some ((cz (w.drop 8)).getD 0) else none
def xp(c:Cc)(w:ah):Cc:=if w=Hi then {c with ns:=true} else if w=Hh then {c with nc:=true} else if w=Hj then {c with pr:=true} else if w=Hg then {c with mu:=true} else
 match Pz w with
 |some n=>{c with ha:=true,w8:=if c.ha=true then min (n:Int) c.w8 else n}
 |none=>c
def Et(v:ah):Cc:=(mB v).foldl (λc w=>xp c (dw w)) pE
def gY(fs:List aM):Cc:=Et ((dS fs rW).getD [])
def aeY:(⟨#[110,111,45,115,116,111,114,101]⟩:ByteArray)=⟨Hi.toArray⟩/\(⟨#[110,111,45,99,97,99,104,101]⟩:ByteArray)=⟨Hh.toArray⟩/\(⟨#[112,114,105,118,97,116,101]⟩:ByteArray)=⟨Hj.toArray⟩/\(⟨#[109,117,115,116,45,114,101,118,97,108,105,100,97,116,101]⟩:ByteArray)=⟨Hg.toArray⟩/\(⟨#[109,97,120,45,97,103,101,61]⟩:ByteArray)=⟨y8.toArray⟩:=⟨rfl,rfl,rfl,rfl,rfl⟩
def YL{w:ah}(h:w=Hi\/w=Hh\/w=Hj\/w=Hg):Lib.hasPrefix w y8=false:=by rcases h with rfl|rfl|rfl|rfl<;>decide
def XI(c:Cc)(w:ah)(hb:w.length<=1073741824):ev LI TT 159 [.ptr .own (mO c),.str ⟨w.toArray⟩]=some (.ak [],[.ptr .own (mO (xp c w)),.dead]):=by
 rw[aE (b:=rK) (rs:=[]) (n:=2) rfl rfl];obtain⟨t1,t2,t3,t4,t5⟩:=aeY;have v3:=YE w y8 (by omega);have hword:=YL (w:=w);unfold xp;by_cases g1:w=Hi;·rw[hword (Or.inl g1)] at v3;simp -implicitDefEqProofs [rK,v3,t1,t5,eq_true g1]
 by_cases g2:w=Hh;·rw[hword (by simp[g2])] at v3;simp -implicitDefEqProofs [rK,v3,t1,t2,t5,eq_false g1,eq_true g2]
 by_cases g3:w=Hj;·rw[hword (by simp[g3])] at v3;simp -implicitDefEqProofs [rK,v3,t1,t2,t3,t5,eq_false g1,eq_false g2,eq_true g3]
 by_cases g4:w=Hg;·rw[hword (by simp[g4])] at v3;simp -implicitDefEqProofs [rK,v3,t1,t2,t3,t4,t5,eq_false g1,eq_false g2,eq_false g3,eq_true g4]
 unfold Pz;cases hp:Lib.hasPrefix w y8;·rw[hp] at v3;simp -implicitDefEqProofs [rK,v3,t1,t2,t3,t4,t5,eq_false g1,eq_false g2,eq_false g3,eq_false g4]
 rw[hp,show Lib.trimPrefix w y8=w.drop 8 by unfold Lib.trimPrefix;rw[hp];rfl] at v3;have v4:=uM (w.drop 8) (by simp;omega);try simp at v3
 try simp at v4
 generalize (cz (w.drop 8)).getD 0=n at v4;cases gh:c.ha;all_goals
 simp -implicitDefEqProofs [rK,v3,v4,t1,t2,t3,t4,t5,eq_false g1,eq_false g2,eq_false g3,eq_false g4,gh];all_goals (repeat' split)<;>first|rfl|omega|(simp_all;done)|(simp_all;omega)|skip
def VS(ws:List ah)(hl0:ws.length<=1073741825)(hb:∀w∈ws,w.length<=1073741824)(g:Cc):bh (aA (ev LI TT) (aB TT) BU) [(2,.ptr .own (mO pE)),(3,.ptr .own (mO g)),(7,.row .own 1 (ws.map eS)),(8,.int .i64 ws.length),(9,.int .i64 0)]=some (.exit 0,[(2,.ptr .own (mO pE)),(3,.ptr .own (mO ((ws).foldl (λc w=>xp c (dw w)) g))),(7,.row .own 1 (ws.map eS)),(8,.int .i64 ws.length),(9,.int .i64 (ws).length),(10,.bool false)]):=by
 refine G4 (f:=aA (ev LI TT) (aB TT) BU) (ws) (λi (g:Cc)=>[(2,.ptr .own (mO pE)),(3,.ptr .own (mO g)),(7,.row .own 1 (ws.map eS)),(8,.int .i64 ws.length),(9,.int .i64 i)]) (λc w=>xp c (dw w)) (λg=>[(2,.ptr .own (mO pE)),(3,.ptr .own (mO g)),(7,.row .own 1 (ws.map eS)),(8,.int .i64 ws.length),(9,.int .i64 (ws).length),(10,.bool false)]) (λ_ _=>True) g trivial (λi b g hi hl _=>?_) (λ_ _ _ _ _=>trivial) (λg _=>?_)
 ·have hw:=bY i (by first|omega|(simp at hl;omega));obtain⟨_,rfl⟩:=aQ.1 hi;have hx:=hb _ (cB hl);have v1:=O2 ws[i] hx;have v2:(dw ws[i]).length<=1073741824:=by simp[dw];exact hx
  have v3:=XI g (dw ws[i]) v2;try simp at v1
  try simp at v3
  simp -implicitDefEqProofs [BU,K1,hl,hw,v1,v3,pE];all_goals (repeat' split)<;>first|rfl|omega|(simp_all;done)|(simp_all;omega)|skip
 ·simp -implicitDefEqProofs [BU,K1]
def XH(v:ah)(hb:v.length<=1073741824):ev LI TT 131 [.str ⟨v.toArray⟩]=some (.agg (mO (Et v)),[.dead]):=by
 rw[aE (b:=FE) (rs:=[.c 2 6 true 129]) (n:=1) rfl rfl];have hm:=HU v;have hn:=Np v;have u1:=Pd v hb;try simp at u1
 have u2:=VS (mB v) (by omega) (λw hw=>by have:=hm w hw;omega) pE;try simp at u2
 rw[show (mB v).foldl (λc w=>xp c (dw w)) pE=Et v from rfl] at u2;simp[pE] at u2;simp -implicitDefEqProofs [FE,u1,u2,pE];all_goals (repeat' split)<;>first|rfl|omega|(simp_all;done)|(simp_all;omega)|skip
def uL(fs:List aM)(hb:wL aL fs<=1073741824):ev LI TT 80 [.row .af 2 (fs.map aW)]=some (.agg (mO (gY fs)),[.dead]):=by
 rw[aE (b:=FD) (rs:=[.c 2 6 true 129]) (n:=1) rfl rfl];have hfl:=bg (w:=aL) fs;have hg:=ve fs rW;have t3:(⟨#[99,97,99,104,101,45,99,111,110,116,114,111,108]⟩:ByteArray)=⟨rW.toArray⟩:=rfl;have u1:=nS fs rW (by omega);try simp at u1
 have u2:=XH ((dS fs rW).getD []) (by omega);try simp at u2
 rw[show Et ((dS fs rW).getD [])=gY fs from rfl] at u2;simp -implicitDefEqProofs [FD,u1,u2,t3];all_goals (repeat' split)<;>first|rfl|omega|(simp_all;done)|(simp_all;omega)|skip
end M
set_option maxHeartbeats 4000000
namespace M
open Go
variable [Lb]
def Ej(q:Rq)(hb:bn q<=1073741824):ev LI TT 50 [.agg (dN .af q)]=some (.bool (kr q),[.dead]):=by
 rw[aE (b:=yo) (rs:=[.t 2]) (n:=1) rfl rfl];have oa:bn q=q.path.length+wL aL q.fields+q.body.length:=rfl;unfold kr;have u1:=Jl q.path (by omega);try simp at u1
 have u2:=O0 q.fields (by omega);try simp at u2
 by_cases g1:1<=q.method;rotate_left;·simp -implicitDefEqProofs [yo,u1,u2,eq_false g1]
 by_cases g2:q.method<=4;rotate_left;·simp -implicitDefEqProofs [yo,u1,u2,eq_true g1,eq_false g2]
 cases g3:lg q.path<;>cases g4:mQ q.fields<;>rw[g3] at u1<;>rw[g4] at u2;all_goals
 simp -implicitDefEqProofs [yo,u1,u2,eq_true g1,eq_true g2];all_goals (repeat' split)<;>first|rfl|omega|(simp_all;done)|(simp_all;omega)|skip
def lF(q:Rq):Bool:=kr q && decide (q.method=1) && !(gY q.fields).ns
def kH(a b:Rq):Bool:=lF a && lF b && decide (a.path=b.path) && decide (a.fields=b.fields)
def Jj(q:Rq)(hb:bn q<=1073741824):ev LI TT 95 [.agg (dN .af q)]=some (.bool (lF q),[.dead]):=by
 rw[aE (b:=Gv) (rs:=[.t 2]) (n:=1) rfl rfl];have oa:bn q=q.path.length+wL aL q.fields+q.body.length:=rfl;unfold lF;have u1:=Ej q hb;try simp at u1
 have u2:=uL q.fields (by omega);try simp at u2
 cases g3:kr q<;>rw[g3] at u1;all_goals by_cases g4:q.method=1
 all_goals
 simp -implicitDefEqProofs [Gv,u1,u2,g4];all_goals (repeat' split)<;>first|rfl|omega|(simp_all;done)|(simp_all;omega)|skip
def ZG(a b:aM):a=b↔(a.name=b.name/\a.value=b.value):=by cases a;cases b;simp
def Ws(ps:List (aM×aM))(hb:ps.length<=9223372036854775807):bh (aA (ev LI TT) (aB TT) DA) [(0,.row .af 2 (ps.map λx=>aW x.1)),(1,.row .af 2 (ps.map λx=>aW x.2)),(12,.int .i64 ps.length),(13,.int .i64 0)]=if bq kN (ps)=true then some (.exit 0,[(0,.row .af 2 (ps.map λx=>aW x.1)),(1,.row .af 2 (ps.map λx=>aW x.2)),(12,.int .i64 ps.length),(13,.int .i64 ps.length),(14,.bool false)]) else some (.ret,[(4,.bool false)]):=by
 refine iX (f:=aA (ev LI TT) (aB TT) DA) (ps) (λi=>[(0,.row .af 2 (ps.map λx=>aW x.1)),(1,.row .af 2 (ps.map λx=>aW x.2)),(12,.int .i64 ps.length),(13,.int .i64 i)]) kN _ _ (λi b hi hl=>?_) ?_;·have hw:=bY i (by first|omega|(simp at hl;omega));obtain⟨_,rfl⟩:=aQ.1 hi;simp -implicitDefEqProofs [DA,Nr,hl,hw,kN,ZG];first|done|(split<;>simp_all;done)|(split<;>simp_all<;>(intro h;simp_all))
 ·simp -implicitDefEqProofs [DA,Nr]
def Pp(a b:List aM)(hb:a.length<=9223372036854775807):ev LI TT 96 [.row .af 2 (a.map aW),.row .af 2 (b.map aW)]=some (.bool (decide (a=b)),[.dead,.dead]):=by
 rw[aE (b:=HY) (rs:=[.t 4]) (n:=2) rfl rfl];simp -implicitDefEqProofs [HY];by_cases h:a.length=b.length;·obtain⟨ps,rfl,rfl⟩:=Iw h;have h1:=Ws ps (by simpa using hb);have h2:=Ea ps;simp at h1;rw[<-h2];cases h3:bq kN ps<;>rw[h3] at h1<;>simp[h1,zS]
 ·have:¬a=b:=λe=>h (by rw[e]);simp[this];omega
def OT(a:Rq)(b:Rq)(ha:bn a<=1073741824)(hb:bn b<=1073741824):ev LI TT 52 [.agg (dN .af a),.agg (dN .af b)]=some (.bool (kH a b),[.dead,.dead]):=by
 rw[aE (b:=vu) (rs:=[.t 4]) (n:=2) rfl rfl];have oa:bn a=a.path.length+wL aL a.fields+a.body.length:=rfl;have l2:=bg (w:=aL) a.fields;unfold kH;have u1:=Jj a ha;try simp at u1
 have u2:=Jj b hb;try simp at u2
 have u3:=Pp a.fields b.fields (by omega);try simp at u3
 generalize lF a=g1 at u1;generalize lF b=g2 at u2;generalize decide (a.fields=b.fields)=g4 at u3;cases g1;·simp -implicitDefEqProofs [vu,u1]
 cases g2;·simp -implicitDefEqProofs [vu,u1,u2]
 by_cases g3:a.path=b.path;rotate_left;·simp -implicitDefEqProofs [vu,u1,u2,eq_false g3]
 simp -implicitDefEqProofs [vu,u1,u2,u3,eq_true g3];all_goals (repeat' split)<;>first|rfl|omega|(simp_all;done)|(simp_all;omega)|skip
end M
set_option maxHeartbeats 4000000
namespace M
open Go
variable [Lb]
def ri(l:List Fl)(x:Fl×Nat):Bool:=kr x.1.q && decide (1<=(x.1.who.length:Int)/\(x.1.who.length:Int)<=5) && (!x.1.fO||dy x.1.old) && bq (λy=> !kH y.q x.1.q) (l.take x.2)
def AP(l:List Fl):Bool:=decide ((l.length:Int)<=5) && bq (ri l) l.zipIdx
def dQ(c:Ca):Bool:=eT c.ai && decide (0<=c.now/\c.now<=1000000) && decide ((c.seen.length:Int)<=1500) && decide ((c.sent.length:Int)<=1500) && AP c.aF
def UG{l:List Fl}{x:Fl}(h:x∈l):bn x.q<=wL cm l/\aU x.old<=wL cm l:=by have h1:=gB (w:=cm) h;have h2:cm x=bn x.q+wL wO x.who+aU x.old:=rfl;omega
def akn(c:Ca):wL cm c.aF<=aN c:=by unfold aN;omega
def Wh(l:List Fl)(n:Nat)(x:Fl)(hn:n<=l.length)(hx:bn x.q<=1073741824)(hc:wL cm l<=100000000):bh (aA (ev LI TT) (aB TT) CC) [(0,.row .af 13 (l.map (cj .af))),(4,.ptr .own (cj .af x)),(7,.row .af 13 (l.map (cj .af))),(8,.int .i64 l.length),(9,.int .i64 n),(35,.row .af 13 (l.map (cj .af))),(36,.int .i64 n),(37,.row .af 13 ((l.take n).map (cj .af))),(38,.int .i64 n),(39,.int .i64 0)]=if bq (λy=> !kH y.q x.q) (l.take n)=true then some (.exit 2,[(0,.row .af 13 (l.map (cj .af))),(4,.ptr .own (cj .af x)),(7,.row .af 13 (l.map (cj .af))),(8,.int .i64 l.length),(9,.int .i64 n),(35,.row .af 13 (l.map (cj .af))),(36,.int .i64 n),(37,.row .af 13 ((l.take n).map (cj .af))),(38,.int .i64 n),(39,.int .i64 (l.take n).length),(40,.bool false)]) else some (.ret,[(2,.bool false)]):=by
 refine iX (f:=aA (ev LI TT) (aB TT) CC) (l.take n) (λi=>[(0,.row .af 13 (l.map (cj .af))),(4,.ptr .own (cj .af x)),(7,.row .af 13 (l.map (cj .af))),(8,.int .i64 l.length),(9,.int .i64 n),(35,.row .af 13 (l.map (cj .af))),(36,.int .i64 n),(37,.row .af 13 ((l.take n).map (cj .af))),(38,.int .i64 n),(39,.int .i64 i)]) (λy=> !kH y.q x.q) _ _ (λi b hi hl=>?_) ?_
 ·have hw:=bY i (by have:=bg (w:=cm) l;simp at hl;omega);obtain⟨_,rfl⟩:=aQ.1 hi;have h1:i<n:=by simp at hl;omega
  have h2:i<l.length:=by omega
  have h4:=UG (cB h2);have u1:=OT (l[i]).q x.q (by omega) hx;cases hal:kH (l[i]).q x.q<;>rw[hal] at u1<;>simp at u1;all_goals
  simp -implicitDefEqProofs [CC,LA,hl,hw,h1,h2,u1,hal];all_goals (repeat' split)<;>first|rfl|omega|(simp_all;done)|(simp_all;omega)|skip
 ·have hmin:min n l.length=n:=by omega
  simp -implicitDefEqProofs [CC,LA,hmin]
def Wi(l:List Fl)(hc:wL cm l<=100000000):bh (aA (ev LI TT) (aB TT) vI) [(0,.row .af 13 (l.map (cj .af))),(7,.row .af 13 (l.map (cj .af))),(8,.int .i64 l.length),(9,.int .i64 0)]=if bq (ri l) (l.zipIdx)=true then some (.exit 0,[(0,.row .af 13 (l.map (cj .af))),(7,.row .af 13 (l.map (cj .af))),(8,.int .i64 l.length),(9,.int .i64 (l.zipIdx).length),(10,.bool false)]) else some (.ret,[(2,.bool false)]):=by
 refine iX (f:=aA (ev LI TT) (aB TT) vI) (l.zipIdx) (λi=>[(0,.row .af 13 (l.map (cj .af))),(7,.row .af 13 (l.map (cj .af))),(8,.int .i64 l.length),(9,.int .i64 i)]) (ri l) _ _ (λi b hi hl=>?_) ?_
 ·have hw:=bY i (by have:=bg (w:=cm) l;simp at hl;omega);obtain⟨_,rfl⟩:=aQ.1 hi;simp only[Om] at hl;have hz:l.zipIdx[i]'(by simpa using hl)=(l[i],i):=by simp
  have h4:=UG (cB hl);have hmin:min i l.length=i:=by omega
  have hle:(i:Int)<=l.length:=by omega
  have hle2:i<=l.length:=by omega
  rw[hz];unfold ri;have u1:=Ej (l[i]).q (by omega);try simp at u1
  have u2:=xl (l[i]).old (by omega);try simp at u2
  have u3:=Wh l i l[i] (by omega) (by omega) (by omega);try simp at u3
  generalize kr (l[i]).q=b1 at u1;cases b1;·simp -implicitDefEqProofs [vI,yz,hl,hw,u1]
  by_cases g2:1<=((l[i]).who.length:Int)/\((l[i]).who.length:Int)<=5;rotate_left
  ·simp only[vI,decide_eq_false g2,Bool.and_false,Bool.false_and];by_cases AR:1<=((l[i]).who.length:Int);·have J0:¬((l[i]).who.length:Int)<=5:=λh=>g2 ⟨AR,h⟩;simp -implicitDefEqProofs [yz,hl,hw,u1,AR,J0]
   ·simp -implicitDefEqProofs [yz,hl,hw,u1,AR]
  rw[decide_eq_true g2];obtain⟨AR,J0⟩:=g2;generalize dy (l[i]).old=b2 at u2;cases RF:(l[i]).fO;all_goals rw[RF] at u3
  all_goals cases b2
  all_goals cases g5:bq (λy:Fl=> !kH y.q (l[i]).q) (l.take i)<;>rw[g5] at u3
  all_goals try simp at u3
  all_goals try simp only[hmin] at u3
  all_goals
  simp -implicitDefEqProofs [vI,yz,hl,hw,u1,u2,u3,hmin,hle,hle2,AR,J0,RF,g5];all_goals (repeat' split)<;>first|rfl|omega|(simp_all;done)|(simp_all;omega)|skip
 ·simp -implicitDefEqProofs [vI,yz]
def Yi(l:List Fl)(hc:wL cm l<=100000000):ev LI TT 28 [.row .af 13 (l.map (cj .af))]=some (.bool (AP l),[.dead]):=by
 rw[aE (b:=Gt) (rs:=[.t 2]) (n:=1) rfl rfl];have u1:=Wi l hc;try simp at u1
 unfold AP;cases g6:bq (ri l) l.zipIdx<;>rw[g6] at u1;all_goals try simp at u1
 all_goals
 simp -implicitDefEqProofs [Gt,u1];all_goals (repeat' split)<;>first|rfl|omega|(simp_all;done)|(simp_all;omega)|skip
def Ap(c:Ca)(hc:aN c<=100000000):ev LI TT 17 [.agg (aI .af c)]=some (.bool (dQ c),[.dead]):=by
 rw[aE (b:=rG) (rs:=[.t 2]) (n:=1) rfl rfl];have hsh:cx c.ai<=aN c:=by unfold aN;omega
 have hfl:=akn c;unfold dQ;have u1:=X1 c.ai (by omega);try simp at u1
 have u2:=Yi c.aF (by omega);try simp at u2
 by_cases g1:0<=c.now;rotate_left;·simp -implicitDefEqProofs [rG,u1,g1]
 by_cases g2:c.now<=1000000;rotate_left;·simp -implicitDefEqProofs [rG,u1,g1,g2]
 by_cases g4:(c.seen.length:Int)<=1500;rotate_left;·simp -implicitDefEqProofs [rG,u1,g1,g2,g4]
 by_cases g5:(c.sent.length:Int)<=1500;rotate_left;·simp -implicitDefEqProofs [rG,u1,g1,g2,g4,g5]
 generalize AP c.aF=b2 at u2;cases b2;·simp -implicitDefEqProofs [rG,u1,u2,g1,g2,g4,g5]
 generalize eT c.ai=b1 at u1;cases b1;all_goals
 simp -implicitDefEqProofs [rG,u1,u2,g1,g2,g4,g5];all_goals (repeat' split)<;>first|rfl|omega|(simp_all;done)|(simp_all;omega)|skip
end M
set_option maxHeartbeats 4000000
namespace M
open Go
variable [Lb]
def ud(n:Int)(l:List Bn):Nat:=(max 0 (min n l.length)).toNat
def aeU(n:Int)(l:List Bn):ud n l<=l.length:=by unfold ud;omega
def CI(l:List Bn)(a:Rp):Bool:= !(decide (a.kind=1) && fT (l.take (ud a.aG l)) a.obj)
def GM(c:Ca):Bool:=dQ c && bq (CI c.ai.aG) c.sent && bq (λk:Kp=> !fT c.ai.aG k.obj) c.ai.aC
def Pq(c:Ca):wL bz c.ai.aG<=aN c:=by unfold aN cx;omega
def Pr(c:Ca):wL cQ c.ai.aC<=aN c:=by unfold aN cx;omega
def Eo(c:Ca):wL cL c.sent<=aN c:=by unfold aN;omega
def agU{c:Ca}{x:Rp}(hx:x∈c.sent):aU x.obj<=aN c:=by have h1:=gB (w:=cL) hx;have h2:cL x=bn x.q+aJ x.resp+aU x.obj:=rfl;have h5:=Eo c;omega
def aei{c:Ca}{x:Kp}(hx:x∈c.ai.aC):aU x.obj<=aN c:=by have h1:=sy hx;have h5:=Pr c;omega
def VZ(c:Ca)(hc:aN c<=100000000):bh (aA (ev LI TT) (aB TT) B2) [(1,.ptr .own (aI .af c)),(40,.aj 1 [] 0 0),(41,.aj 1 [] 0 2),(42,.row .af 9 (c.ai.aC.map (au .af))),(43,.int .i64 c.ai.aC.length),(44,.int .i64 0)]=if bq (λk:Kp=> !fT c.ai.aG k.obj) (c.ai.aC)=true then some (.exit 2,[(1,.ptr .own (aI .af c)),(40,.aj 1 [] 0 0),(41,.aj 1 [] 0 2),(42,.row .af 9 (c.ai.aC.map (au .af))),(43,.int .i64 c.ai.aC.length),(44,.int .i64 (c.ai.aC).length),(45,.bool false)]) else some (.ret,[(2,.bool false)]):=by
 refine iX (f:=aA (ev LI TT) (aB TT) B2) (c.ai.aC) (λi=>[(1,.ptr .own (aI .af c)),(40,.aj 1 [] 0 0),(41,.aj 1 [] 0 2),(42,.row .af 9 (c.ai.aC.map (au .af))),(43,.int .i64 c.ai.aC.length),(44,.int .i64 i)]) (λk:Kp=> !fT c.ai.aG k.obj) _ _ (λi b hi hl=>?_) ?_
 ·have hw:=bY i (by have:=bg (w:=cQ) c.ai.aC;have:=Pr c;omega);obtain⟨_,rfl⟩:=aQ.1 hi;have hb:=Pq c;have ho:=aei (cB hl);have u1:=xk c.ai.aG (c.ai.aC[i]).obj (by omega) (by omega);try simp at u1
  cases hh:fT c.ai.aG (c.ai.aC[i]).obj<;>rw[hh] at u1;all_goals
  simp -implicitDefEqProofs [B2,K6,hl,hw,u1,hh];all_goals (repeat' split)<;>first|rfl|omega|(simp_all;done)|(simp_all;omega)|skip
 ·simp -implicitDefEqProofs [B2,K6]
def VY(c:Ca)(hc:aN c<=100000000):bh (aA (ev LI TT) (aB TT) yf) [(1,.ptr .own (aI .af c)),(11,.aj 1 [] 0 9),(12,.row .af 18 (c.sent.map (dY .af))),(13,.int .i64 c.sent.length),(14,.int .i64 0)]=if bq (CI c.ai.aG) (c.sent)=true then some (.exit 0,[(1,.ptr .own (aI .af c)),(11,.aj 1 [] 0 9),(12,.row .af 18 (c.sent.map (dY .af))),(13,.int .i64 c.sent.length),(14,.int .i64 (c.sent).length),(15,.bool false)]) else some (.ret,[(2,.bool false)]):=by
 refine iX (f:=aA (ev LI TT) (aB TT) yf) (c.sent) (λi=>[(1,.ptr .own (aI .af c)),(11,.aj 1 [] 0 9),(12,.row .af 18 (c.sent.map (dY .af))),(13,.int .i64 c.sent.length),(14,.int .i64 i)]) (CI c.ai.aG) _ _ (λi b hi hl=>?_) ?_
 ·have hw:=bY i (by have:=bg (w:=cL) c.sent;have:=Eo c;omega);obtain⟨_,rfl⟩:=aQ.1 hi;have hb:=Pq c;have ho:=agU (cB hl);have ht:=UM bz c.ai.aG (ud (c.sent[i]).aG c.ai.aG);have u1:=xk (c.ai.aG.take (ud (c.sent[i]).aG c.ai.aG)) (c.sent[i]).obj (by omega) (by omega);have hn:=aeU (c.sent[i]).aG c.ai.aG;have P5:∀v,(if (c.ai.aG.length:Int)<(c.sent[i]).aG then (c.ai.aG.length:Int) else (c.sent[i]).aG)=v->(if 0<v then v else 0)=(ud (c.sent[i]).aG c.ai.aG:Int):=by intro v hv;subst hv;unfold ud;split<;>split at* <;>omega
  obtain⟨v,e1⟩:∃v:Int,(if (c.ai.aG.length:Int)<(c.sent[i]).aG then (c.ai.aG.length:Int) else (c.sent[i]).aG)=v:=⟨_,rfl⟩;have e2:=P5 v e1;clear P5;unfold CI;generalize hN:ud (c.sent[i]).aG c.ai.aG=N at u1 hn e2;have hn2:(N:Int)<=c.ai.aG.length:=by omega
  try simp at u1
  by_cases g1:(c.sent[i]).kind=1;rotate_left;·simp -implicitDefEqProofs [yf,FP,hl,hw,g1,e1,e2,hn,hn2]
  cases hh:fT (c.ai.aG.take N) (c.sent[i]).obj<;>rw[hh] at u1;all_goals
  simp -implicitDefEqProofs [yf,FP,hl,hw,u1,hh,g1,hn,hn2,e1,e2];all_goals (repeat' split)<;>first|rfl|omega|(simp_all;done)|(simp_all;omega)|skip
 ·simp -implicitDefEqProofs [yf,FP]
def XP(c:Ca)(hc:aN c<=100000000):ev LI TT 24 [.agg (aI .af c)]=some (.bool (GM c),[.dead]):=by
 rw[aE (b:=yg) (rs:=[.t 2]) (n:=1) rfl rfl];unfold GM;have u1:=Ap c hc;try simp at u1
 have u2:=VY c hc;try simp at u2
 have u3:=VZ c hc;try simp at u3
 generalize dQ c=b1 at u1;cases b1;·simp -implicitDefEqProofs [yg,u1]
 cases h2:bq (CI c.ai.aG) c.sent<;>rw[h2] at u2;all_goals try simp at u2
 ·simp -implicitDefEqProofs [yg,u1,u2]
 cases h3:bq (λk:Kp=> !fT c.ai.aG k.obj) c.ai.aC<;>rw[h3] at u3;all_goals try simp at u3
 all_goals
 simp -implicitDefEqProofs [yg,u1,u2,u3];all_goals (repeat' split)<;>first|rfl|omega|(simp_all;done)|(simp_all;omega)|skip
end M
set_option maxHeartbeats 4000000
namespace M
open Go
variable [Lb]
def Pj(d:bR)(h1:d.cells.length<=1073741824)(h2:d.pending.length<=1073741824):ev LI TT 57 [.agg (gw .af d)]=some (.agg (gw .own d),[.dead]):=by
 rw[aE (b:=Gj) (rs:=[.c 2 2 true 33]) (n:=1) rfl rfl];have u1:=GP d.cells h1;try simp at u1
 have u2:=aeb d.pending h2;try simp at u2
 simp -implicitDefEqProofs [Gj,u1,u2];all_goals (repeat' split)<;>first|rfl|omega|(simp_all;done)|(simp_all;omega)|skip
def IJ(ws:List Wr):Prop:=∀w∈ws,0<=w.at_/\w.at_<=19
def qq{d:bR}(h:eR d=true):IJ d.pending/\d.cells.length=20/\d.pending.length<=16:=by simp only[eR,av,bx] at h;refine⟨λw hw=>?_,by omega,by omega⟩;simpa [vX] using gj.1 h.1.1 w hw
def dZ(d:bR):bR:=⟨rR (kj [] true) d.cells d.pending,[]⟩
def VU(ws:List Wr)(hb:ws.length<=9223372036854775807)(ho:IJ ws)(cs:List ah)(hinv:cs.length=20):bh (aA (ev LI TT) (aB TT) BW) [(0,.aj 100000 [] 0 0),(4,.aj 100000 [] 0 0),(5,.aj 100000 [] 0 0),(6,.aj 100000 [] 0 1),(7,.ref 100000 [(0,1)]),(8,.int .i64 ws.length),(9,.int .i64 0),(100000,.ptr .own [.row .own 1 ((cs).map eS),.row .own 2 (ws.map eW)])]=some (.exit 0,[(0,.aj 100000 [] 0 0),(4,.aj 100000 [] 0 0),(5,.aj 100000 [] 0 0),(6,.aj 100000 [] 0 1),(7,.ref 100000 [(0,1)]),(8,.int .i64 ws.length),(9,.int .i64 (ws).length),(10,.bool false),(100000,.ptr .own [.row .own 1 (((foldI (kn (kj [] true)) 0 (ws) cs)).map eS),.row .own 2 (ws.map eW)])]):=by
 refine nu (f:=aA (ev LI TT) (aB TT) BW) (ws) (λi (cs:List ah)=>[(0,.aj 100000 [] 0 0),(4,.aj 100000 [] 0 0),(5,.aj 100000 [] 0 0),(6,.aj 100000 [] 0 1),(7,.ref 100000 [(0,1)]),(8,.int .i64 ws.length),(9,.int .i64 i),(100000,.ptr .own [.row .own 1 ((cs).map eS),.row .own 2 (ws.map eW)])]) (kn (kj [] true)) (λcs=>[(0,.aj 100000 [] 0 0),(4,.aj 100000 [] 0 0),(5,.aj 100000 [] 0 0),(6,.aj 100000 [] 0 1),(7,.ref 100000 [(0,1)]),(8,.int .i64 ws.length),(9,.int .i64 (ws).length),(10,.bool false),(100000,.ptr .own [.row .own 1 ((cs).map eS),.row .own 2 (ws.map eW)])]) (λi (cs:List ah)=>cs.length=20) cs hinv (λi b cs hi hl hinv=>?_) (λi b cs hi hinv=>?_) (λcs hinv=>?_)
 ·have hw:=bY i (by first|omega|(simp at hl;omega));obtain⟨_,rfl⟩:=aQ.1 hi;have h1:=ho _ (cB hl);have h2:(ws[i]).at_.toNat<cs.length:=by omega
  simp -implicitDefEqProofs [BW,K3,hl,hw,h1,h2,kn,kj]
 ·rw[L6];exact hinv
 ·simp -implicitDefEqProofs [BW,K3]
def Eh(d:bR)(h:eR d=true):ev LI TT 40 [.ptr .own (gw .own d)]=some (.ak [],[.ptr .own (gw .own (dZ d))]):=by
 rw[aE (b:=FJ) (rs:=[]) (n:=1) rfl rfl];obtain⟨h0,h1,h1'⟩:=qq h;have h2:=VU d.pending (by omega) h0 d.cells h1;try simp at h2
 simp -implicitDefEqProofs [FJ,h1,h2,rR,dZ];all_goals (repeat' split)<;>first|rfl|omega|(simp_all;done)|(simp_all;omega)|skip
def me(d:bR)(a:Int)(t:ah):bR:=if 16<=(d.pending.length:Int) then ⟨(dZ d).cells,[⟨a,t⟩]⟩ else ⟨d.cells,d.pending++[⟨a,t⟩]⟩
def Ht(s:Sh)(a:Int)(t:ah):Sh:=⟨me s.aP a t,s.aC,s.aG,s.next,s.seq⟩
def ET{d:bR}(h:eR d=true):eR (dZ d)=true:=by obtain⟨h0,h1,h1'⟩:=qq h;have:=Sn (kj [] true) d.cells d.pending;unfold eR dZ;simp only[this,h1];rfl
def Pb(s:Sh)(at_:Int)(t:ah)(h:eR s.aP=true):ev LI TT 112 [.ptr .own (bp .own s),.int .i64 at_,.str ⟨t.toArray⟩]=some (.ak [],[.ptr .own (bp .own (Ht s at_ t)),.dead,.dead]):=by
 rw[aE (b:=Cq) (rs:=[]) (n:=3) rfl rfl];obtain⟨h0,h1,h1'⟩:=qq h;have h2:=Eh s.aP h;try simp at h2
 have h5:(s.aP.pending.length+1)*24<=140737488355328:=by omega
 unfold Ht me;by_cases g2:(16:Int)<=s.aP.pending.length;·simp -implicitDefEqProofs [Cq,h2,g2,cZ,dZ]
 simp -implicitDefEqProofs [Cq,h5,g2,cZ];all_goals (repeat' split)<;>first|rfl|omega|(simp_all;done)|(simp_all;omega)|skip
def ue(a:Int):Int:=if a=19 then 5 else a+1
def Ph(a:Int)(h:5<=a/\a<=19):ev LI TT 78 [.int .i64 a]=some (.int .i64 (ue a),[.dead]):=by
 rw[aE (b:=Cx) (rs:=[.t 2]) (n:=1) rfl rfl];unfold ue;have hw:IntKind.i64.wrap (a+1)=a+1:=dz (by omega) (by omega);by_cases g:a=19;·subst g;have h20:IntKind.i64.wrap 20=20:=dz (by omega) (by omega);simp -implicitDefEqProofs [Cx,h20]
 have g2:¬a+1=20:=by omega
 simp -implicitDefEqProofs [Cx,hw,g,g2];all_goals (repeat' split)<;>first|rfl|omega|(simp_all;done)|(simp_all;omega)|skip
def jy(a b:Ob):Bool:=decide (a.path=b.path) && decide (a.names=b.names) && decide (a.values=b.values)
def Ji(a:Ob)(b:Ob)(ha:aU a<=1073741824)(hb:aU b<=1073741824):ev LI TT 77 [.agg (cE .af a),.agg (cE .af b)]=some (.bool (jy a b),[.dead,.dead]):=by
 rw[aE (b:=yA) (rs:=[.t 4]) (n:=2) rfl rfl];have hw:aU a=a.path.length+wL wS a.names+wL wS a.values+aJ a.resp:=rfl;have dF:aU b=b.path.length+wL wS b.names+wL wS b.values+aJ b.resp:=rfl;have l1:=bg (w:=wS) a.names;have l2:=bg (w:=wS) a.values;unfold jy;have u1:=As a.names b.names (by omega);try simp at u1
 have u2:=As a.values b.values (by omega);try simp at u2
 by_cases g:a.path=b.path;rotate_left;·simp -implicitDefEqProofs [yA,eq_false g]
 by_cases g2:a.names=b.names;rotate_left;·rw[decide_eq_false g2] at u1;simp -implicitDefEqProofs [yA,eq_true g,u1,eq_false g2]
 rw[decide_eq_true g2] at u1;simp -implicitDefEqProofs [yA,u1,u2,eq_true g,eq_true g2];all_goals (repeat' split)<;>first|rfl|omega|(simp_all;done)|(simp_all;omega)|skip
end M
namespace M
open Go
variable [Lb]
def lz(g:Nat×Nat)(b:UInt8):Nat×Nat:=((g.1+b.toNat)%65521,(g.2+(g.1+b.toNat)%65521)%65521)
def M3(g:Nat×Nat)(b:UInt8):(lz g b).1<65521/\(lz g b).2<65521:=⟨oY _ (by decide),oY _ (by decide)⟩
def ahF(g:Nat×Nat)(b:UInt8)(h:g.1<65521/\g.2<65521):(IntKind.i64.wrap (↑g.1+IntKind.i64.wrap ↑b.toNat)).tmod 65521=↑(lz g b).1/\
  (IntKind.i64.wrap (↑g.2+(IntKind.i64.wrap (↑g.1+IntKind.i64.wrap ↑b.toNat)).tmod 65521)).tmod 65521=↑(lz g b).2:=by
 have hb:=b.toNat_lt;have e1:IntKind.i64.wrap (↑g.1+IntKind.i64.wrap ↑b.toNat)=((g.1+b.toNat:Nat):Int):=by rw[dz (n:=(b.toNat:Int)) (by omega) (by omega),dz (by omega) (by omega)];omega
 have e2:(((g.1+b.toNat:Nat):Int)).tmod 65521=↑(lz g b).1:=by rw[Ip (by omega)];unfold lz;omega
 have h1:=(M3 g b).1;have e3:IntKind.i64.wrap (↑g.2+(↑(lz g b).1:Int))=((g.2+(lz g b).1:Nat):Int):=by rw[dz (by omega) (by omega)];omega
 rw[e1,e2,e3];refine⟨rfl,?_⟩;rw[Ip (by omega)];unfold lz;omega
def oS(s:ah):Nat×Nat:=foldI (λ_ g b=>lz g b) 0 s (1,0)
def QV{γ β:Type}{go:Nat->γ->β->γ}{I:γ->Prop}(h:∀i g b,I g->I (go i g b)):∀(l:List β) (i:Nat) (g:γ),I g->I (foldI go i l g)
 |[],_,_,hg=>hg
 |b::l,i,g,hg=>QV h l (i+1) _ (h i g b hg)
def Uk(s:ah):(oS s).1<65521/\(oS s).2<65521:=QV (I:=λg=>g.1<65521/\g.2<65521) (λ_ g b _=>M3 g b) s 0 _ (by simp)
def uv(s:ah):Nat:=65521*(oS s).2+(oS s).1
def M1(s:ah):uv s<10^10:=by have:=Uk s;unfold uv;omega
def Wb(s:ah)(hb:s.length<=9223372036854775807)(g:Nat×Nat)(hinv:g.1<65521/\g.2<65521):bh (aA (ev LI TT) (aB TT) Cr) [(0,.str ⟨s.toArray⟩),(3,.int .i64 (g).1),(4,.int .i64 (g).2),(5,.int .i64 0)]=some (.exit 0,[(0,.str ⟨s.toArray⟩),(3,.int .i64 ((foldI (λ_ g b=>lz g b) 0 (s) g)).1),(4,.int .i64 ((foldI (λ_ g b=>lz g b) 0 (s) g)).2),(5,.int .i64 (s).length),(9,.bool false)]):=by
 refine nu (f:=aA (ev LI TT) (aB TT) Cr) (s) (λi (g:Nat×Nat)=>[(0,.str ⟨s.toArray⟩),(3,.int .i64 (g).1),(4,.int .i64 (g).2),(5,.int .i64 i)]) (λ_ g b=>lz g b) (λg=>[(0,.str ⟨s.toArray⟩),(3,.int .i64 (g).1),(4,.int .i64 (g).2),(5,.int .i64 (s).length),(9,.bool false)]) (λi (g:Nat×Nat)=>g.1<65521/\g.2<65521) g hinv (λi b g hi hl hinv=>?_) (λi b g hi hinv=>?_) (λg hinv=>?_);·have hw:=bY i (by first|omega|(simp at hl;omega));obtain⟨_,rfl⟩:=aQ.1 hi;skip;simp -implicitDefEqProofs [Cr,Lo,hl,hw];exact ahF g s[i] hinv
 ·exact M3 _ _
 ·simp -implicitDefEqProofs [Cr,Lo]
def Yc(s:ah)(hb:s.length<=9223372036854775807):ev LI TT 145 [.str ⟨s.toArray⟩]=some (.int .i64 (uv s),[.dead]):=by rw[aE (b:=Gb) (rs:=[.t 2]) (n:=1) rfl rfl];have h:=Wb s hb (1,0) (by simp);have h2:=Uk s;have e1:IntKind.i64.wrap (65521*((oS s).2:Int))=65521*(oS s).2:=dz (by omega) (by omega);have e2:IntKind.i64.wrap (65521*((oS s).2:Int)+(oS s).1)=65521*(oS s).2+(oS s).1:=dz (by omega) (by omega);rw[show foldI (λ_ g b=>lz g b) 0 s (1,0)=oS s from rfl] at h;simp at h;simp -implicitDefEqProofs [Gb,h,e1,e2,uv];all_goals (repeat' split)<;>first|rfl|omega|(simp_all;done)|(simp_all;omega)|skip
def MF(n:Nat)(b:ah):ah:=bJ (uv (bJ n++32::(bJ b.length++10::b)))++32::(bJ n++32::(bJ b.length++10::b))
def eH(n:Int)(b:ah):ah:=if 1<=n/\n<=100000/\b.length<=2000 then MF n.toNat b else []
def Jd(n:Int)(b:ah)(hb:b.length<=9223372036854775807):ev LI TT 108 [.int .i64 n,.str ⟨b.toArray⟩]=some (.str ⟨(eH n b).toArray⟩,[.dead,.dead]):=by
 rw[aE (b:=ym) (rs:=[.t 4]) (n:=2) rfl rfl];by_cases h1:¬(1<=n/\n<=100000)
 ·have h1':¬(1<=n/\n<=100000/\b.length<=2000):=by omega
  simp -implicitDefEqProofs [ym,h1,eH,h1']
 by_cases h2:2000<b.length
 ·have h1':¬(1<=n/\n<=100000/\b.length<=2000):=by omega
  have mW:(2000:Int)<b.length:=by omega
  simp -implicitDefEqProofs [ym,h1,eH,h1',h2,mW]
 obtain⟨m,rfl⟩:∃m:Nat,n=m:=⟨n.toNat,by omega⟩;have l1:=xx 5 m (by omega);have l2:=xx 5 b.length (by omega);have l3:=xx 17 (uv (bJ m++32::(bJ b.length++10::b))) (Nat.lt_trans (M1 _) (by decide));have k1:=uQ m (by omega);have k2:=uQ b.length (by omega);have k4:=uQ (uv (bJ m++32::(bJ b.length++10::b))) (by have:=M1 (bJ m++32::(bJ b.length++10::b));omega);have k3:=Yc (bJ m++32::(bJ b.length++10::b)) (by simp;omega);have mW:¬(2000<(b.length:Int)):=by omega
 have h3:1<=m/\m<=100000:=by omega
 have h4:b.length<=2000:=by omega
 simp -implicitDefEqProofs [ym,mW,h3,h4,k1,k2,k3,k4,sn,eH,MF];repeat rw[aq (by omega)]
end M
namespace M
open Go
variable [Lb]
def Jz{c:UInt8}:∀{s:ah} {p:ah×ah},eC c s=some p->s=p.1++c::p.2
 |[],p,h=>by cases h
 |b::s,p,h=>by
  unfold eC at h;split at h;·rename_i hb;cases h;simp[hb]
  ·cases hc:eC c s with
   |none=>rw[hc] at h;cases h
   |some q=>rw[hc] at h;cases h;simp[<-Jz hc]
def PU{s:ah}{p:ah×ah}(h:eC 10 s=some p):p.2.length<s.length/\s.drop (s.length - p.2.length)=p.2/\p.1.length<s.length:=by
 have he:=Jz h;have hl:=dB List.length he;simp at hl;refine⟨by omega,?_,by omega⟩;have:s.length - p.2.length=(p.1++[10]).length:=by simp;omega
 rw[this,he];have e:p.1++10::p.2=(p.1++[10])++p.2:=by simp
 rw[e,Is]
end M
namespace M
open Go
variable [Lb]
def dh(s:ah):Int×ah×Bool:=match eC 10 s with
 |some (l,b)=>match cu 32 l with
  |[_,w,_]=>if eH ((cz w).getD 0:Nat) b=s then ((((cz w).getD 0:Nat):Int),b,true) else (0,[],false)
  |_=>(0,[],false)
 |none=>(0,[],false)
def O5(s:ah)(hb:s.length<=1073741824):ev LI TT 117 [.str ⟨s.toArray⟩]=some (.ak [.int .i64 ((dh s).1),.str ⟨((dh s).2.1).toArray⟩,.bool ((dh s).2.2)],[.dead]):=by
 rw[aE (b:=oo) (rs:=[.t 2,.t 3,.t 4]) (n:=1) rfl rfl];have u1:=xm s [10] (by omega);have ec:=EB 10 s;unfold dh;cases hc:eC 10 s with
 |none=>rw[hc] at ec;have u2:=uR s 32 (by omega);simp only at ec;rw[ec] at u1;simp at u1 u2;simp -implicitDefEqProofs [oo,u1,u2]
 |some p=>
 obtain⟨l,b⟩:=p;rw[hc] at ec;simp only at ec;rw[ec] at u1;have hd:=PU hc;simp only at hd;obtain⟨d1,d2,d3⟩:=hd;have u2:=uR l 32 (by omega);have d6:¬s=[]:=by rintro rfl;simp at d1
 have hm:=zA 32 l;simp only at u1;rcases hw:cu 32 l with _|⟨w0,_|⟨w1,_|⟨w2,_|⟨w3,ws⟩⟩⟩⟩;·exact absurd hw (HI 32 l)
 ·rw[hw] at u2;simp at u1 u2;simp -implicitDefEqProofs [oo,u1,u2,hw]
 ·rw[hw] at u2;simp at u1 u2;simp -implicitDefEqProofs [oo,u1,u2,hw]
 rotate_left
 ·rw[hw] at u2;have hn:¬((ws.length:Int)+1+1+1+1=3):=by omega
  simp at u1 u2;simp -implicitDefEqProofs [oo,u1,u2,hw,hn]
 have hw1:=hm w1 (by rw[hw];simp);rw[hw] at u2;have u3:=uM w1 (by omega);cases hq:cz w1 with
 |none=>
  rw[hq] at u3;have g:¬eH ((0:Nat):Int) b=s:=by rw[show eH ((0:Nat):Int) b=[] by unfold eH;rw[ay (by omega)]];exact λh=>d6 h.symm
  simp at u1 u2 u3 g;simp -implicitDefEqProofs [oo,u1,u2,hw,hq,u3,eq_false g]
 |some n=>
 rw[hq] at u3;have u4:=Jd (n:Int) b (by omega);simp at u1 u2 u3;by_cases h0:n=0
 ·subst h0;have g:¬eH ((0:Nat):Int) b=s:=by rw[show eH ((0:Nat):Int) b=[] by unfold eH;rw[ay (by omega)]];exact λh=>d6 h.symm
  simp at g;simp -implicitDefEqProofs [oo,u1,u2,hw,hq,u3,eq_false g]
 by_cases g:eH (n:Int) b=s;·simp -implicitDefEqProofs [oo,u1,u2,hw,hq,u3,u4,h0,eq_true g]
 simp -implicitDefEqProofs [oo,u1,u2,hw,hq,u3,u4,h0,eq_false g];all_goals (repeat' split)<;>first|rfl|omega|(simp_all;done)|(simp_all;omega)|skip
end M
set_option maxHeartbeats 4000000
namespace M
open Go
variable [Lb]
def sB:ah:=[112,97,116,104]
def sw:ah:=[98,101,108,111,119]
def sx:ah:=[102,105,101,108,100]
def mA(k:Int):ah:=if k=1 then sB else if k=2 then sw else sx
def vL(w:ah):Int:=if w=sB then 1 else if w=sw then 2 else if w=sx then 3 else 0
def gp(b:Bn):ah:=if eX b=true then [98,97,110]++32::(mA b.kind++32::(dn b.t++32::(b.a++if b.kind=3 then 10::b.b else []))) else []
def W4{b:Bn}(h:eX b=true):b.kind=1\/b.kind=2\/b.kind=3:=by
 unfold eX at h;by_cases h1:b.kind=1;·exact Or.inl h1
 by_cases h2:b.kind=2;·exact Or.inr (Or.inl h2)
 by_cases h3:b.kind=3;·exact Or.inr (Or.inr h3)
 simp[h1,h2,h3] at h
def aks(k:Int):(mA k).length<=5:=by unfold mA;(repeat' split)<;>simp[sB,sw,sx]
def El(k:Int)(hk:k=1\/k=2\/k=3):ev LI TT 147 [.int .i64 k]=some (.str ⟨(mA k).toArray⟩,[.dead]):=by
 rw[aE (b:=Gh) (rs:=[.t 2]) (n:=1) rfl rfl];rcases hk with rfl|rfl|rfl;all_goals
 simp -implicitDefEqProofs [Gh,mA,sB,sw,sx,HG,zy,Ma,dz];all_goals (repeat' split)<;>first|rfl|omega|(simp_all;done)|(simp_all;omega)|skip
def OU(b:Bn)(hb:bz b<=1073741824):ev LI TT 115 [.agg (cY b)]=some (.str ⟨(gp b).toArray⟩,[.dead]):=by
 rw[aE (b:=Bw) (rs:=[.t 2]) (n:=1) rfl rfl];obtain⟨kd,a0,b0,t0⟩:=b;have hw:bz ⟨kd,a0,b0,t0⟩=a0.length+b0.length:=rfl;have l1:=vV t0;have l2:=aks kd;unfold gp;have u1:=Eg ⟨kd,a0,b0,t0⟩ hb;try simp at u1
 have u2:=Ei t0;try simp at u2
 by_cases g:eX ⟨kd,a0,b0,t0⟩=true;rotate_left;·simp -implicitDefEqProofs [Bw,u1,u2,g]
 rw[g] at u1;have u3:=El kd (W4 g);try simp at u3
 by_cases h:kd=3;all_goals (try subst h)
 all_goals
 simp -implicitDefEqProofs [Bw,u1,u2,u3,g,sn];all_goals (try simp only[*,not_false_eq_true,iD,sK])
 all_goals (repeat rw[aq (by omega)])
 all_goals (try simp)
 all_goals first|done|omega|(refine⟨by omega,by omega,?_⟩;rw[show (⟨#[10]⟩:ByteArray)=⟨([10]:ah).toArray⟩ from rfl,sn,sn];simp;done)|skip
end M
set_option maxHeartbeats 4000000
namespace M
open Go
variable [Lb]
def mK:List ah:=[sB,sw,sx]
def CM(w:ah)(i:Nat)(g:Int)(b:ah):Int:=if b=w then ((1+i:Nat):Int) else g
def aeg(w:ah):foldI (CM w) 0 mK 0=vL w:=by
 unfold vL CM;simp only[mK,foldI];by_cases h1:w=sB;·subst h1;rfl
 by_cases h2:w=sw;·subst h2;rfl
 by_cases h3:w=sx;·subst h3;rfl
 simp[h1,h2,h3,wP h1,wP h2,wP h3,eq_comm (b:=w)]
def VP(s w0 w1 w2 w3 v:ah)(is:Bool)(n:Int)(g:Int)(hinv:True):bh (aA (ev LI TT) (aB TT) Bv) [(0,.str ⟨s.toArray⟩),(2,.ptr .own [.int .i64 0,.str ⟨#[]⟩,.str ⟨#[]⟩,.int .i64 0]),(7,.row .own 1 ([w0,w1,w2,w3].map eS)),(9,.bool is),(10,.ptr .own [.int .i64 g,.str ⟨w3.toArray⟩,.str ⟨v.toArray⟩,.int .i64 n]),(11,.int .i64 ((1+0:Nat):Int))]=some (.exit 0,[(0,.str ⟨s.toArray⟩),(2,.ptr .own [.int .i64 0,.str ⟨#[]⟩,.str ⟨#[]⟩,.int .i64 0]),(7,.row .own 1 ([w0,w1,w2,w3].map eS)),(9,.bool is),(10,.ptr .own [.int .i64 (foldI (CM w1) 0 (mK) g),.str ⟨w3.toArray⟩,.str ⟨v.toArray⟩,.int .i64 n]),(11,.int .i64 4),(38,.bool false)]):=by
 refine nu (f:=aA (ev LI TT) (aB TT) Bv) (mK) (λi (g:Int)=>[(0,.str ⟨s.toArray⟩),(2,.ptr .own [.int .i64 0,.str ⟨#[]⟩,.str ⟨#[]⟩,.int .i64 0]),(7,.row .own 1 ([w0,w1,w2,w3].map eS)),(9,.bool is),(10,.ptr .own [.int .i64 g,.str ⟨w3.toArray⟩,.str ⟨v.toArray⟩,.int .i64 n]),(11,.int .i64 ((1+i:Nat):Int))]) (CM w1) (λg=>[(0,.str ⟨s.toArray⟩),(2,.ptr .own [.int .i64 0,.str ⟨#[]⟩,.str ⟨#[]⟩,.int .i64 0]),(7,.row .own 1 ([w0,w1,w2,w3].map eS)),(9,.bool is),(10,.ptr .own [.int .i64 g,.str ⟨w3.toArray⟩,.str ⟨v.toArray⟩,.int .i64 n]),(11,.int .i64 4),(38,.bool false)]) (λi (g:Int)=>True) g hinv (λi b g hi hl hinv=>?_) (λi b g hi hinv=>?_) (λg hinv=>?_)
 ·have hw:=bY i (by simp[mK] at hl;omega);obtain⟨_,rfl⟩:=aQ.1 hi;have h3:i=0\/i=1\/i=2:=by simp[mK] at hl;omega
  have b1:=El 1 (by omega);have b2:=El 2 (by omega);have b3:=El 3 (by omega);simp only[mA,eN,show ¬((2:Int)=1) by omega,show ¬((3:Int)=1) by omega,show ¬((3:Int)=2) by omega,iD] at b1 b2 b3;try simp at b1
  try simp at b2
  try simp at b3
  by_cases hq:mK[i]=w1;all_goals rcases h3 with rfl|rfl|rfl
  all_goals simp only[mK,Vt,List.getElem_cons_succ] at hq
  all_goals
  simp -implicitDefEqProofs [Bv,KQ,hl,hw,CM,hq,mK,dz,b1,b2,b3]
 ·trivial
 ·simp -implicitDefEqProofs [Bv,KQ,mK]
def zB:Bn:=⟨0,[],[],0⟩
def j0(s:ah):ah×ah:=match eC 10 s with
 |some p=>p
 |none=>(s,[])
def xg(s v:ah)(ws:List ah):Bn×Bool:=match ws with
 |[_,w,t,a]=>if gp ⟨vL w,a,v,((cz t).getD 0:Nat)⟩=s then (⟨vL w,a,v,((cz t).getD 0:Nat)⟩,true) else (zB,false)
 |_=>(zB,false)
def ji(s:ah):Bn×Bool:=xg s (j0 s).2 (cu 32 (j0 s).1)
def Xb{s v:ah}{ws:List ah}(h:ws.length≠4):xg s v ws=(zB,false):=by
 unfold xg;split;·simp at h
 ·rfl
def Ss{ws:List ah}(h:ws.length=4):∃a b c d,ws=[a,b,c,d]:=by
 match ws,h with
 |[a,b,c,d],_=>exact⟨a,b,c,d,rfl⟩
def WZ(s:ah):(j0 s).1.length<=s.length/\(j0 s).2.length<=s.length:=by
 unfold j0;cases h:eC 10 s with
 |none=>simp
 |some p=>have:=dB List.length (Jz h);simp at this⊢;omega
def PT:∀(p r:ah),(∀b∈p,b≠10)->eC 10 (p++r)=(eC 10 r).map λq=>(p++q.1,q.2)
 |[],r,_=>by simp
 |b::p,r,h=>by rw[gS,eC,ay (h b (bE ..)),PT p r λx hx=>h x (cI _ hx)];cases eC 10 r<;>simp
def WY(p r:ah)(h:∀b∈p,b≠10):(j0 (p++r)).1=p++(j0 r).1:=by unfold j0;rw[PT p r h];cases eC 10 r<;>simp
def MX(w r:ah)(h:∀b∈w,b≠32):cu 32 (w++32::r)=w::cu 32 r:=by rw[HH 32 w _ h];simp[cu]
def UN(k:Int):∀b∈mA k,b≠32/\b≠10:=by unfold mA;(repeat' split)<;>simp[sB,sw,sx]
def Xc{s w0 w1 w2 w3 v a:ah}{k:Int}(h:gp ⟨k,a,v,0⟩=s)(hs:cu 32 (j0 s).1=[w0,w1,w2,w3]):cz w2≠none\/s=[]:=by
 unfold gp at h;split at h
 ·left;have e:dn 0=[48]:=by simp[dn,JE]
  rw[e] at h;simp only at h;have e2:s=([98,97,110,32]++(mA k++[32,48,32]))++(a++if k=3 then 10::v else []):=by rw[<-h];simp
  rw[e2,WY _ _ (by intro b hb;simp at hb;rcases hb with rfl|rfl|rfl|rfl|hb|rfl|rfl|rfl<;>first|decide|exact(UN k b hb).2)] at hs;have e3:[98,97,110,32]++(mA k++[32,48,32])++(j0 (a++if k=3 then 10::v else [])).1=[98,97,110]++32::(mA k++32::([48]++32::(j0 (a++if k=3 then 10::v else [])).1)):=by simp
  rw[e3,MX _ _ (by decide),MX _ _ (λb hb=>(UN k b hb).1),MX _ _ (by decide)] at hs;simp only[nM] at hs;obtain⟨_,_,rfl,_⟩:=hs;simp[cz,uw,JE]
 ·right;exact h.symm
def Xr(s:ah)(hb:s.length<=1048576):ev LI TT 119 [.str ⟨s.toArray⟩]=some (.ak [.agg (cY ((ji s).1)),.bool ((ji s).2)],[.dead]):=by
 rw[aE (b:=vz) (rs:=[.c 2 4 true 49,.t 3]) (n:=1) rfl rfl];have u1:=xm s [10] (by omega);have ec:=EB 10 s;have bl:=WZ s;unfold ji
 have hX:∃l v k,j0 s=(l,v)/\ev LI TT 148 [.str ⟨s.toArray⟩,.str ⟨#[10]⟩]=some (.ak [.str ⟨l.toArray⟩,.str ⟨v.toArray⟩,.bool k],[.dead,.dead]):=by
  unfold j0;cases hc:eC 10 s with
  |none=>rw[hc] at ec;simp only at ec;rw[ec] at u1;exact⟨s,[],_,rfl,u1⟩
  |some p=>rw[hc] at ec;simp only at ec;rw[ec] at u1;exact⟨p.1,p.2,_,rfl,u1⟩
 clear u1 ec;obtain⟨l,v,k,he,u1⟩:=hX;have hz:=λw0 w1 w2 w3 v a k=>Xc (s:=s) (w0:=w0) (w1:=w1) (w2:=w2) (w3:=w3) (v:=v) (a:=a) (k:=k);rw[he] at bl hz⊢;simp only at bl hz⊢;have u2:=uR l 32 (by omega);have hm:=zA 32 l;by_cases h4:(cu 32 l).length=4;rotate_left
 ·rw[Xb h4];have J5:¬(((cu 32 l).length:Int)=4):=by omega
  try simp at u2
  simp -implicitDefEqProofs [vz,u1,u2,J5,zB]
 obtain⟨w0,w1,w2,w3,hw⟩:=Ss h4;rw[hw] at u2 hm hz⊢;have u3:=uM w2 (by have:=hm w2 (by simp);omega);have u4:=OU ⟨vL w1,w3,v,((cz w2).getD 0:Nat)⟩ (by have:=hm w3 (by simp);simp only[bz];omega);have u5:=VP s w0 w1 w2 w3 v (cz w2).isSome ((cz w2).getD 0:Nat) 0 trivial;rw[aeg] at u5;unfold xg;cases hn:cz w2 with
 |none=>
  rw[hn] at u3 u4 u5
  have g:¬gp ⟨vL w1,w3,v,0⟩=s:=by
   intro g;rcases hz _ _ _ _ _ _ _ g rfl with h|h;·exact h hn
   ·subst h;rw[show j0 []=([],[]) from rfl] at he;obtain⟨rfl,rfl⟩:=DO he;simp[cu] at h4
  simp[mK,sB,sw,sx] at u2 u3 u4 u5 g;simp -implicitDefEqProofs [vz,u1,u2,u3,u4,u5,hn,eq_false g,zB]
 |some n=>
 rw[hn] at u3 u4 u5;simp[mK,sB,sw,sx] at u2 u3 u4 u5;by_cases g:gp ⟨vL w1,w3,v,(n:Int)⟩=s;·simp -implicitDefEqProofs [vz,u1,u2,u3,u4,u5,hn,eq_true g,zB]
 simp -implicitDefEqProofs [vz,u1,u2,u3,u4,u5,hn,eq_false g,zB];all_goals (repeat' split)<;>first|rfl|omega|(simp_all;done)|(simp_all;omega)|skip
end M
set_option maxHeartbeats 4000000
namespace M
open Go
variable [Lb]
def Tx{s:ah}(h:(dh s).2.2=false):dh s=(0,[],false):=by
 unfold dh at h⊢;(repeat' split at h)<;>first|(cases h;done)|skip
 all_goals (repeat' split)<;>simp_all
def Hv{s:ah}(h:(dh s).2.2=true):1<=(dh s).1/\(dh s).1<=100000/\(dh s).2.1.length<=2000/\eH (dh s).1 (dh s).2.1=s/\s≠[]:=by
 unfold dh at h⊢;cases hc:eC 10 s with
 |none=>simp[hc] at h
 |some p=>
  obtain⟨l,b⟩:=p;have hs:s≠[]:=by rintro rfl;simp[eC] at hc
  simp only[hc] at h⊢;split at h
  ·rename_i w0 w w2 hw;split at h
   ·rename_i g;simp only[hw,g,eN];have g2:=g;unfold eH at g;split at g;·rename_i c;exact⟨c.1,c.2.1,c.2.2,by trivial,hs⟩
    ·exact absurd g.symm hs
   ·cases h
  ·cases h
def Tv(s:ah):(dh s).2.1.length<=2000:=by
 cases h:(dh s).2.2;·rw[Tx h];simp
 ·exact(Hv h).2.2.1
def Nb{s:ah}(h:gR s=true):s.length<=20:=by unfold gR at h;simp only[av,bx] at h;omega
def Nj{s:ah}(h:jA s=true):s.length<=60:=by unfold jA at h;simp only[av,bx] at h;omega
def Tf{s:ah}(h:lg s=true):s.length<=60:=by unfold lg at h;simp only[av,bx] at h;omega
def sA{α:Type}{w:α->Nat}{l:List α}{n m:Nat}(h:∀x∈l,w x<=n)(hl:l.length<=m):wL w l<=m*(n+1):=by
 suffices H:wL w l<=l.length*(n+1) from jB H (kC _ hl)
 clear hl;induction l with
 |nil=>simp[wL]
 |cons x l ih=>have h1:=h x (bE ..);have h2:=ih λy hy=>h y (cI _ hy);simp only[wL,di,bC,Ih,fD,wM] at h2⊢;omega
def Hx{r:aV}(h:fA r=true):aJ r<=800:=by
 have A:=MI h;have h1:wL aL r.fields<=8*(80+1):=sA (λf hf=>by have:=JO A.f hf;have h1:=Nb this.1;have h2:=Nj this.2.1;simp only[aL];omega) (Qu A.f)
 have h2:=A.b;simp only[aJ];omega
def C0{o:Ob}(h:dy o=true):aU o<=1300:=by
 have A:=Hq h;have h1:=Hx A.resp;have h2:=Tf A.path;have hn:∀x∈o.names,x.length<=20:=by have:=A.names;unfold qk at this;simp only[av] at this;exact λx hx=>Nb (gj.1 this.1 x hx)
 have h3:wL wS o.names<=4*(20+1):=sA hn A.n4;have h4:wL wS o.values<=4*(60+1):=sA (λx hx=>Nj (A.vals x hx)) (by have:=A.len;have:=A.n4;omega);simp only[aU];omega
def S1{s:ah}(h:(jR s).2=true):dy (jR s).1=true/\fJ (jR s).1=s:=by have:=Tu h;refine⟨this.1,?_⟩;have h2:dy (jR s).1=true:=this.1;unfold fJ;rw[aq h2];exact this.2
def afr(s:ah):aU (jR s).1<=1300:=by
 cases h:(jR s).2;·have:jR s=(jq,false):=Tt h;rw[this];decide
 ·exact C0 (S1 h).1
def W5{b:Bn}(h:eX b=true):bz b<=120:=by
 unfold eX at h;simp only[av,bx] at h;obtain⟨_,h⟩:=h;split at h;·simp only[av,bx] at h;have:=Tf h.1;simp[bz,h.2];omega
 ·split at h;·simp only[av] at h;have h1:=Nb h.1;have h2:=Nj h.2;simp only[bz];omega
  ·cases h
def W9{b:Bn}(h:gp b≠[]):eX b=true:=by
 unfold gp at h;split at h;·assumption
 ·exact absurd rfl h
def W7{s:ah}(h:(ji s).2=true)(hs:s≠[]):eX (ji s).1=true/\gp (ji s).1=s:=by
 unfold ji xg at h⊢;split at h
 ·split at h;·rename_i hw hg;simp only[hw,hg,eN];exact⟨W9 (by rw[hg];exact hs),trivial⟩
  ·cases h
 ·cases h
def W6:ji []=(zB,false):=by simp[ji,xg,j0,eC,cu]
def W8{s:ah}(h:(ji s).2=true):eX (ji s).1=true/\gp (ji s).1=s:=by refine W7 h ?_;rintro rfl;rw[W6] at h;cases h
def CY(m n:Int):Int:=if n<100000 then max m n else m
def ox(d:bR)(i:Nat)(g:List Bn×Int)(_:Nat):(List Bn×Int) ⊕ ((List Bn×Int)×Int×Bn×Nat):=
 if (dh (dX d i)).2.2=true/\(ji (dh (dX d i)).2.1).2=true then .inl (g.1++[(ji (dh (dX d i)).2.1).1],CY g.2 (dh (dX d i)).1) else .inr (g,(dh (dX d i)).1,(ji (dh (dX d i)).2.1).1,i)
def I3{α β:Type}:α ⊕ (α×β)->α
 |.inl a=>a
 |.inr a=>a.1
def fW(d:bR):List Bn×Int:=I3 (jb (ox d) 0 (List.range 5) ([],0))
noncomputable def yW(bs:List Bn)(d:bR)(i:Nat)(g:List Kp×Int)(_:Nat):List Kp×Int:=
 if (dh (dX d ((5+i:Nat):Int))).2.2=true/\(jR (dh (dX d ((5+i:Nat):Int))).2.1).2=true/\(dh (dX d ((5+i:Nat):Int))).1<100000 then
  (if fT bs (jR (dh (dX d ((5+i:Nat):Int))).2.1).1=true then g.1 else g.1++[⟨(jR (dh (dX d ((5+i:Nat):Int))).2.1).1,((5+i:Nat):Int),(dh (dX d ((5+i:Nat):Int))).1⟩],max g.2 (dh (dX d ((5+i:Nat):Int))).1)
 else g
noncomputable def qi(bs:List Bn)(d:bR)(m:Int):List Kp×Int:=foldI (yW bs d) 0 (List.range 15) ([],m)
def GZ(all:List Kp)(i:Nat)(k:Kp):Bool:=(all.drop (i+1)).any λx=>decide (x.seq=k.seq)||jy x.obj k.obj
def yQ(all:List Kp)(i:Nat)(g:List Kp×Int)(k:Kp):List Kp×Int:=if GZ all i k=true then g else (g.1++[k],ue k.at_)
def iW:List Kp->List Kp
 |[]=>[]
 |k::l=>if (l.any λx=>decide (x.seq=k.seq)||jy x.obj k.obj)=true then iW l else k::iW l
def vS(l:List Kp):Int:=l.getLast?.elim 5 λk=>ue k.at_
def rS(all:List Kp):List Kp×Int:=(iW all,vS (iW all))
def yO:∀l:List Kp,List.Sublist (iW l) l
 |[]=>List.Sublist.refl _
 |k::l=>by
  unfold iW;split;·exact(yO l).trans (List.sublist_cons_self ..)
  ·exact(yO l).cons_cons k
def L7:∀l:List Kp,(iW l).Pairwise λx y=>y.seq≠x.seq/\jy y.obj x.obj=false
 |[]=>List.Pairwise.nil
 |k::l=>by
  unfold iW;split;·exact L7 l
  ·rename_i h;rw[ew];refine⟨λy hy=>?_,L7 l⟩;have:=(yO l).subset hy;simp only[Bool.not_eq_true,N1,qH,bx,not_or] at h;have:=h y this;exact⟨this.1,by simpa using this.2⟩
def Sr(all:List Kp):∀(l:List Kp) (i:Nat) (g:List Kp×Int),all.drop i=l->foldI (yQ all) i l g=(g.1++iW l,if iW l=[] then g.2 else vS (iW l))
 |[],i,g,_=>by simp[foldI,iW]
 |k::l,i,g,h=>by
  have hd:all.drop (i+1)=l:=by rw[<-List.drop_drop,h];rfl
  rw[foldI,Sr all l (i+1) _ hd];unfold yQ GZ;rw[hd];rw[show iW (k::l)=(if (l.any λx=>decide (x.seq=k.seq)||jy x.obj k.obj)=true then iW l else k::iW l) from rfl];split;·rfl
  ·simp only[sJ,Vl,reduceCtorEq,iD];congr 1;cases hL:iW l with
   |nil=>simp[vS]
   |cons a L=>simp[vS]
def aek(all:List Kp):foldI (yQ all) 0 all ([],5)=rS all:=by
 rw[Sr all all 0 _ rfl];unfold rS;simp only[kB];congr 1;split;·rename_i h;rw[h];rfl
 ·rfl
noncomputable def nv(d:bR):List Kp×Int:=qi (fW d).1 d (fW d).2
noncomputable def iY(d:bR):List Kp:=oP Kp.seq (nv d).1
noncomputable def iw(d:bR):Sh:=⟨d,(rS (iY d)).1,(fW d).1,(rS (iY d)).2,(nv d).2+1⟩
structure Iy (k:Kp):Prop where
 o:dy k.obj=true
 a:5<=k.at_/\k.at_<=19
 s:1<=k.seq/\k.seq<100000
def Mh(d:bR){i:Nat}{g:List Bn×Int}(hg:(∀b∈g.1,eX b=true)/\g.1.length<=i/\0<=g.2/\g.2<100000){x:Nat}:
  (∀g',ox d i g x=.inl g'->(∀b∈g'.1,eX b=true)/\g'.1.length<=i+1/\0<=g'.2/\g'.2<100000)/\∀e,ox d i g x=.inr e->e.1=g:=by
 unfold ox;by_cases c:(dh (dX d i)).2.2=true/\(ji (dh (dX d i)).2.1).2=true
 ·rw[aq c];refine⟨λg' h=>?_,λe h=>by cases h⟩;have r:=Hv c.1;have b:=W8 c.2;cases h;refine⟨λy hy=>?_,by simp;omega,?_,?_⟩
  ·rcases fE.1 hy with hy|hy;·exact hg.1 y hy
   ·simp at hy;subst hy;exact b.1
  ·simp only[CY];split<;>omega
  ·simp only[CY];split<;>omega
 ·rw[ay c];exact⟨λg' h=>(by cases h),λe h=>(by cases h;rfl)⟩
def yR(d:bR):(∀b∈(fW d).1,eX b=true)/\(fW d).1.length<=5/\0<=(fW d).2/\(fW d).2<100000:=by
 have H:=TS (go:=ox d) (I:=λi g=>(∀b∈g.1,eX b=true)/\g.1.length<=i/\0<=g.2/\g.2<100000) (O:=λe=>(∀b∈e.1.1,eX b=true)/\e.1.1.length<=5/\0<=e.1.2/\e.1.2<100000) 5
  (λi g b hi hg=>⟨(Mh d hg).1,λe he=>by rw[(Mh d hg).2 e he];exact⟨hg.1,by omega,hg.2.2⟩⟩) (List.range 5) 0 ([],0) (by simp) (by simp)
 unfold fW;cases hr:jb (ox d) 0 (List.range 5) ([],0) with
 |inl g=>exact H.1 g hr
 |inr g=>exact H.2 g hr
def QW{β γ:Type}{go:Nat->γ->β->γ}(I:Nat->γ->Prop):∀(l:List β) (i:Nat) (g:γ),(∀j b g,i<=j->j<i+l.length->I j g->I (j+1) (go j g b))->I i g->I (i+l.length) (foldI go i l g)
 |[],i,g,_,h=>h
 |b::l,i,g,hs,h=>by rw[foldI,di,show i+(l.length+1)=i+1+l.length by omega];exact QW I l (i+1) _ (λj b g h1 h2 h3=>hs j b g (by omega) (by simp;omega) h3) (hs i b g (dc _) (by simp) h)
structure w5 (i:Nat) (g:List Kp×Int):Prop where
 k:∀k∈g.1,Iy k
 n:g.1.length<=i
 m:0<=g.2/\g.2<100000
 q:∀k∈g.1,k.seq<=g.2
 a:∀k∈g.1,k.at_<5+i
 d:g.1.Pairwise λx y=>x.at_≠y.at_
def SQ(bs:List Bn)(d:bR){i:Nat}(hi:i<15){g:List Kp×Int}(x:Nat)(h:w5 i g):w5 (i+1) (yW bs d i g x):=by
 unfold yW;split
 ·rename_i c;have r:=Hv c.1;have o:=S1 c.2.1;have hm:=h.m;split;·exact⟨h.k,by have:=h.n;simp only;omega,by simp only;omega,λk hk=>by have:=h.q k hk;simp only;omega,λk hk=>by have:=h.a k hk;omega,h.d⟩
  ·generalize dh (dX d ((5+i:Nat):Int))=rr at*;generalize lP:((5+i:Nat):Int)=at_;refine⟨λk hk=>?_,by have:=h.n;rw[gT,Vw];omega,by constructor<;>(try dsimp only)<;>omega,λk hk=>?_,λk hk=>?_,?_⟩
   ·rcases fE.1 hk with hk|hk;·exact h.k k hk
    ·rw[fQ] at hk;subst hk;exact⟨o.1,⟨by (try dsimp only);omega,by (try dsimp only);omega⟩,⟨r.1,c.2.2⟩⟩
   ·rcases fE.1 hk with hk|hk;·have:=h.q k hk;(try dsimp only);omega
    ·rw[fQ] at hk;subst hk;(try dsimp only);omega
   ·rcases fE.1 hk with hk|hk;·have:=h.a k hk;omega
    ·rw[fQ] at hk;subst hk;(try dsimp only);omega
   ·dsimp only;rw[sF];refine⟨h.d,NM ..,λx hx y hy=>?_⟩;rw[fQ] at hy;subst hy;have:=h.a x hx;(try dsimp only)
    omega
 ·exact⟨h.k,by have:=h.n;omega,h.m,h.q,λk hk=>by have:=h.a k hk;omega,h.d⟩
def SJ(bs:List Bn)(d:bR)(m:Int)(hm:0<=m/\m<100000):w5 15 (qi bs d m):=by have:=QW (go:=yW bs d) w5 (List.range 15) 0 ([],m) (λj b g h1 h2 h3=>SQ bs d (by simp at h2;omega) b h3) ⟨by simp,by simp,hm,by simp,by simp,by simp⟩;simpa [qi] using this
def aeB(bs:List Bn)(d:bR)(m:Int)(hm:0<=m/\m<100000):(qi bs d m).1.length<=15:=(SJ bs d m hm).n
def CS(d:bR):w5 15 (nv d):=SJ _ d _ (yR d).2.2
def SH{d:bR}{k:Kp}:k∈iY d↔k∈(nv d).1:=(MW Kp.seq _).mem_iff
def SG(d:bR):(iY d).length<=15:=by unfold iY;rw[(MW Kp.seq _).length_eq];exact(CS d).n
def SS{a:Int}(h:5<=a/\a<=19):5<=ue a/\ue a<=19:=by unfold ue;split<;>omega
def aeX{l:List Kp}(h:∀k∈l,5<=k.at_/\k.at_<=19):5<=vS l/\vS l<=19:=by
 unfold vS;cases hl:l.getLast? with
 |none=>simp
 |some k=>exact SS (h k (List.mem_of_getLast? hl))
def G5{d:bR}{k:Kp}(h:k∈iY d):Iy k/\k.seq<=(nv d).2:=⟨(CS d).k k (SH.1 h),(CS d).q k (SH.1 h)⟩
end M
set_option maxHeartbeats 4000000
namespace M
open Go
variable [Lb]
def Ud(c:ah):∀(n:Nat) (s:ah),∀w∈Lib.splitK c 0 n s,w.length<=s.length
 |0,s,w,h=>by simp[Lib.splitK] at h;subst h;exact dc _
 |n+1,s,w,h=>by
  unfold Lib.splitK at h;split at h;·simp at h;subst h;exact dc _
  ·rcases bM.1 h with rfl|h;·simp;omega
   ·have:=Ud c n _ w h;simp at this;omega
def Ue(s c:ah):∀w∈Lib.split s c,w.length<=s.length:=Ud c _ s
def ahs(c:ah)(n:Nat)(s:ah):Lib.splitK c 0 n s≠[]:=by
 cases n with
 |zero=>simp[Lib.splitK]
 |succ n=>unfold Lib.splitK;split<;>simp
def ahw(s c:ah):Lib.split s c≠[]:=ahs c _ s
def AO(l:ah):aM:=⟨(Lib.cut l colon).1,(Lib.cut l colon).2.1⟩
def rZ(n:Nat)(i:Nat)(g:List aM)(l:ah):List aM ⊕ (List aM×Option (Nat×ah)):=
 if (Lib.cut l colon).2.2=true then (if i+1=n/\(Lib.cut l colon).1=fI then .inr (g,some (i,(Lib.cut l colon).2.1)) else .inl (g++[AO l])) else .inr (g,none)
def zi:List aM ⊕ (List aM×Option (Nat×ah))->Option (List aM)
 |.inl g=>some g
 |.inr x=>if x.2.isSome=true then some x.1 else none
def Tc(n:Nat):∀(ls:List ah) (i:Nat) (g:List aM),i+ls.length=n->zi (jb (rZ n) i ls g)=(mU ls).map λfs=>g++fs
 |[],i,g,_=>by simp[jb,zi,mU]
 |l::ls,i,g,h=>by
  have hl:i+1=n↔ls=[]:=by
   rw[di] at h;constructor;·intro e;exact Iu.1 (by omega)
   ·rintro rfl;simpa using h
  have hp:rZ n i g l=if (Lib.cut l colon).2.2=true then (if ls=[]/\(Lib.cut l colon).1=fI then .inr (g,some (i,(Lib.cut l colon).2.1)) else .inl (g++[AO l])) else .inr (g,none):=by unfold rZ;simp only[hl]
  rw[jb,mU,hp];by_cases c1:(Lib.cut l colon).2.2=true
  ·rw[aq c1,aq c1];by_cases c2:ls=[]/\(Lib.cut l colon).1=fI;·rw[aq c2,aq c2];simp[zi]
   ·rw[ay c2,ay c2];simp only;have:=Tc n ls (i+1) (g++[AO l]) (by rw[di] at h;omega);rw[this,Option.map_map];congr 1;funext fs;simp[AO]
  ·rw[ay c1,ay c1];rfl
def QS{m:Nat}:∀{ls:List ah} {fs:List aM},(∀l∈ls,l.length<=m)->mU ls=some fs->fs.length<=ls.length/\∀f∈fs,aL f<=2*m
 |[],fs,_,h=>by simp[mU] at h;subst h;simp
 |l::ls,fs,hm,h=>by
  rw[mU] at h;split at h
  ·split at h;·simp at h;subst h;simp
   ·obtain⟨fs',h1,rfl⟩:=lD.1 h;have ih:=QS (λx hx=>hm x (cI _ hx)) h1;refine⟨by simp;exact ih.1,λf hf=>?_⟩;rcases bM.1 hf with rfl|hf;·have:=EA l colon;have:=hm l (bE ..);simp only[aL];omega
    ·exact ih.2 f hf
  ·cases h
def Te{s:ah}{p:ah×List aM×ah}(h:lZ s=some p):p.1.length<=s.length/\wL aL p.2.1<=10*(2*s.length+1)/\p.2.2.length<=s.length:=by
 unfold lZ at h;split at h
 ·rename_i g;obtain⟨fs,h1,rfl⟩:=lD.1 h;have hc:=EA s ck;have hm:=Ue (Lib.cut s ck).1 crlf;have hw:=QS (m:=s.length) (λl hl=>by have:=hm l (Vi hl);omega) h1;refine⟨?_,sA hw.2 (by have:=hw.1;have:=g.2;simp at*;omega),hc.2⟩;cases hs:Lib.split (Lib.cut s ck).1 crlf with
  |nil=>simp
  |cons a l=>have:=hm a (by rw[hs];simp);simp only[List.headD_cons];omega
 ·cases h
def agW{s:ah}{r:aV}(h:sg s=some r):aJ r<=10*(2*s.length+1)+s.length:=by
 unfold sg at h;cases hp:lZ s with
 |none=>rw[hp] at h;cases h
 |some p=>rw[hp] at h;obtain⟨w,_,rfl⟩:=lD.1 h;have:=Te hp;simp only[aJ];omega
def Wo(b l0:ah)(lt:List ah)(hm:∀l∈lt,l.length<=1073741824)(hl9:lt.length<=9):
  bh (aA (ev LI TT) (aB TT) tU) [(7,.str ⟨b.toArray⟩),(9,.row .own 1 ((l0::lt).map eS)),(10,.row .own 2 []),(31,.ref 9 []),(32,.cut 9 [] 1 (lt.length+1)),(33,.int .i64 lt.length),(34,.int .i64 0)]=
  (match jb (rZ lt.length) 0 lt [] with
   |.inl g=>some (.exit 0,[(7,.str ⟨b.toArray⟩),(9,.row .own 1 ((l0::lt).map eS)),(10,.row .own 2 (g.map aW)),(31,.ref 9 []),(32,.cut 9 [] 1 (lt.length+1)),(33,.int .i64 lt.length),(34,.int .i64 lt.length),(35,.bool false)])
   |.inr (g,none)=>some (.ret,[(2,.str ⟨#[]⟩),(3,.row .own 2 []),(4,.str ⟨#[]⟩),(5,.bool false),(10,.row .own 2 (g.map aW))])
   |.inr (g,some (i,v))=>some (.exit 0,[(7,.str ⟨b.toArray⟩),(9,.row .own 1 ((l0::lt).map eS)),(10,.row .own 2 (g.map aW)),(13,.str ⟨fI.toArray⟩),(14,.str ⟨v.toArray⟩),(31,.ref 9 []),(32,.cut 9 [] 1 (lt.length+1)),(33,.int .i64 lt.length),(34,.int .i64 i),(55,.bool true)])):=by
 have:=SF (xt:=0) (f:=aA (ev LI TT) (aB TT) tU) lt (λi (g:List aM)=>[(7,.str ⟨b.toArray⟩),(9,.row .own 1 ((l0::lt).map eS)),(10,.row .own 2 (g.map aW)),(31,.ref 9 []),(32,.cut 9 [] 1 (lt.length+1)),(33,.int .i64 lt.length),(34,.int .i64 i)]) (rZ lt.length)
  (λg=>[(7,.str ⟨b.toArray⟩),(9,.row .own 1 ((l0::lt).map eS)),(10,.row .own 2 (g.map aW)),(31,.ref 9 []),(32,.cut 9 [] 1 (lt.length+1)),(33,.int .i64 lt.length),(34,.int .i64 lt.length),(35,.bool false)])
  (λe=>match e with|(g,none)=>(.ret,[(2,.str ⟨#[]⟩),(3,.row .own 2 []),(4,.str ⟨#[]⟩),(5,.bool false),(10,.row .own 2 (g.map aW))])|(g,some (i,v))=>(.exit 0,[(7,.str ⟨b.toArray⟩),(9,.row .own 1 ((l0::lt).map eS)),(10,.row .own 2 (g.map aW)),(13,.str ⟨fI.toArray⟩),(14,.str ⟨v.toArray⟩),(31,.ref 9 []),(32,.cut 9 [] 1 (lt.length+1)),(33,.int .i64 lt.length),(34,.int .i64 i),(55,.bool true)]))
  (λi g=>g.length<=i) [] (by simp) (λi l g hi hl hg=>?_) (λi l g g' hi hg n7=>?_) (λg hg=>?_)
 ·simp only[jF] at this;refine this.trans ?_;cases jb (rZ lt.length) 0 lt [] with
  |inl g=>rfl
  |inr e=>obtain⟨g,b⟩:=e;cases b with|none=>rfl|some x=>rfl
 ·have hw:=bY i (by omega);obtain⟨_,rfl⟩:=aQ.1 hi;have e1:1+i=i+1:=by omega
  have u1:=xm lt[i] [58,32] (by have:=hm _ (cB hl);omega);have dF:IntKind.i64.wrap ((lt.length:Int)+1 - 2)=(lt.length:Int)+1 - 2:=dz (by omega) (by omega);have hlz:(g.length+1)*32<=140737488355328:=by omega
  unfold rZ AO colon;cases h1:(Lib.cut lt[i] [58,32]).2.2
  ·rw[h1] at u1;try simp at u1
   simp -implicitDefEqProofs [tU,yC,hl,hw,dF,e1,u1,h1,lv,hlz,cZ]
  ·rw[h1] at u1;by_cases h2:i+1=lt.length
   ·have mW:(i:Int)=(lt.length:Int)+1 - 2:=by omega
    by_cases h3:(Lib.cut lt[i] [58,32]).1=fI
    ·rw[h3] at u1;try simp[fI] at u1
     simp -implicitDefEqProofs [tU,yC,hl,hw,dF,e1,u1,h1,eq_true h2,eq_true mW,h3,lv,hlz,cZ,fI]
    ·have E4:=h3;simp[fI] at E4;try simp at u1
     simp -implicitDefEqProofs [tU,yC,hl,hw,dF,e1,u1,h1,eq_true h2,eq_true mW,eq_false h3,eq_false E4,lv,hlz,cZ]
   ·have mW:¬(i:Int)=(lt.length:Int)+1 - 2:=by omega
    try simp at u1
    simp -implicitDefEqProofs [tU,yC,hl,hw,dF,e1,u1,h1,eq_false h2,eq_false mW,lv,hlz,cZ]
 ·unfold rZ at n7;split at n7
  ·split at n7;·cases n7
   ·cases n7;simp;omega
  ·cases n7
 ·simp -implicitDefEqProofs [tU,yC]
def Yl(s:ah)(hb:s.length<=16777216):ev LI TT 172 [.str ⟨s.toArray⟩]=some (.ak [.str ⟨((lZ s).elim [] (λp=>p.1)).toArray⟩,.row .own 2 (((lZ s).elim [] (λp=>p.2.1)).map aW),.str ⟨((lZ s).elim [] (λp=>p.2.2)).toArray⟩,.bool ((lZ s).isSome)],[.dead]):=by
 rw[aE (b:=tV) (rs:=[.t 2,.t 3,.t 4,.t 5]) (n:=1) rfl rfl];have u1:=xm s [13,10,13,10] (by omega);have hc:=EA s [13,10,13,10];have u2:=YG (Lib.cut s [13,10,13,10]).1 [13,10] (by omega) (by simp);have hm:=Ue (Lib.cut s [13,10,13,10]).1 [13,10];have hne:=ahw (Lib.cut s [13,10,13,10]).1 [13,10];have ep:lZ s=if (Lib.cut s [13,10,13,10]).2.2=true/\((Lib.split (Lib.cut s [13,10,13,10]).1 [13,10]).length:Int)<=10 then (mU (Lib.split (Lib.cut s [13,10,13,10]).1 [13,10]).tail).map λfs=>((Lib.split (Lib.cut s [13,10,13,10]).1 [13,10]).headD [],fs,(Lib.cut s [13,10,13,10]).2.1) else none:=rfl
 rw[ep];clear ep;generalize Lib.split (Lib.cut s [13,10,13,10]).1 [13,10]=ls at u2 hm hne;generalize Lib.cut s [13,10,13,10]=p at u1 u2 hm hc;obtain⟨hd,bd,ok⟩:=p;try simp only at u1 u2 hm hc
 obtain⟨l0,lt,rfl⟩:∃l0 lt,ls=l0::lt:=by cases ls with|nil=>exact absurd rfl hne|cons a l=>exact⟨_,_,rfl⟩
 cases ok
 ·try simp at u1 u2
  simp -implicitDefEqProofs [tV,u1,u2]
 by_cases g:(((l0::lt).length:Nat):Int)<=10;rotate_left
 ·have g':10<(lt.length:Int)+1:=by simp at g;omega
  have g2:¬(lt.length:Int)+1<=10:=by omega
  try simp at u1 u2
  simp -implicitDefEqProofs [tV,u1,u2,g',g2]
 have g':¬10<(lt.length:Int)+1:=by simp at g;omega
 have g2:(lt.length:Int)+1<=10:=by omega
 have g5:(1:Int)<=(lt.length:Int)+1:=by omega
 have u3:=Wo bd l0 lt (λl hl=>by have:=hm l (cI _ hl);omega) (by omega);have u4:=Tc lt.length lt 0 [] (by simp);simp only[kB,Option.map_id'] at u4;try simp at u1 u2
 cases hr:jb (rZ lt.length) 0 lt [] with
 |inl fs=>rw[hr] at u3 u4;simp[zi] at u3 u4;simp -implicitDefEqProofs [tV,u1,u2,g',g2,g5,u3,<-u4]
 |inr x=>
 obtain⟨fs,x⟩:=x;cases x;·rw[hr] at u3 u4;simp[zi] at u3 u4;simp -implicitDefEqProofs [tV,u1,u2,g',g2,g5,u3,<-u4]
 rw[hr] at u3 u4;simp[zi] at u3 u4;simp -implicitDefEqProofs [tV,u1,u2,g',g2,g5,u3,<-u4];all_goals (repeat' split)<;>first|rfl|omega|(simp_all;done)|(simp_all;omega)|skip
def XX(s:ah)(hb:s.length<=16777216):ev LI TT 151 [.str ⟨s.toArray⟩]=some (.ak [.agg (cF .own ((fK s).1)),.bool ((fK s).2)],[.dead]):=by
 rw[aE (b:=qg) (rs:=[.c 2 3 true 47,.t 3]) (n:=1) rfl rfl];have u1:=Yl s hb;try simp at u1
 rw[agH];have hw:=λr=>agW (s:=s) (r:=r);have iq:=λp=>Te (s:=s) (p:=p);have er:sg s=(lZ s).bind λp=>(wD (cu 32 p.1)).map λw=>(⟨(((cz w).getD 0:Nat):Int),p.2.1,p.2.2⟩:aV):=rfl;rw[er] at hw⊢;clear er;generalize lZ s=po at u1 hw iq⊢;cases po with
 |none=>
  have u2:=uR [] 32 (by simp);try simp at u1 u2
  simp -implicitDefEqProofs [qg,u1,u2,fZ]
 |some p=>
 obtain⟨f,fs,b⟩:=p;have hq:=iq _ rfl;simp only at hq;have u2:=uR f 32 (by omega);have hm:=zA 32 f;simp only[jC] at hw⊢;rcases iK:cu 32 f with _|⟨w0,_|⟨w1,_|⟨w2,_|⟨w3,ws⟩⟩⟩⟩;·exact absurd iK (HI 32 f)
 ·rw[iK] at u2;simp at u1 u2;simp -implicitDefEqProofs [qg,u1,u2,wD,fZ]
 ·rw[iK] at u2;simp at u1 u2;simp -implicitDefEqProofs [qg,u1,u2,wD,fZ]
 rotate_left
 ·rw[iK] at u2;have hn:¬((ws.length:Int)+1+1+1+1=3):=by omega
  simp at u1 u2;simp -implicitDefEqProofs [qg,u1,u2,wD,fZ,hn]
 rw[iK] at u2 hw;have hw1:=hm w1 (by rw[iK];simp);have u3:=uM w1 (by omega);have hr:=hw ⟨(((cz w1).getD 0:Nat):Int),fs,b⟩ rfl;have u4:=O6 ⟨(((cz w1).getD 0:Nat):Int),fs,b⟩ (by omega);simp only[wD,cG];obtain⟨n,hn⟩:∃n,(((cz w1).getD 0:Nat):Int)=n:=⟨_,rfl⟩;rw[hn] at u3 u4⊢;by_cases g0:s=[];·subst g0;simp at u1 u2 u3 u4;simp -implicitDefEqProofs [qg,u1,u2,u3,fZ]
 by_cases g:jv ⟨n,fs,b⟩=s;·rw[g] at u4;simp at u1 u2 u3 u4;simp -implicitDefEqProofs [qg,u1,u2,u3,u4,g,g0,fZ]
 simp at u1 u2 u3 u4;simp -implicitDefEqProofs [qg,u1,u2,u3,u4,g,g0,fZ];all_goals (repeat' split)<;>first|rfl|omega|(simp_all;done)|(simp_all;omega)|skip
end M
set_option maxHeartbeats 4000000
namespace M
open Go
variable [Lb]
end M
set_option maxHeartbeats 4000000
namespace M
open Go
variable [Lb]
def TE(s:ah):aJ (fK s).1<=800:=by
 cases h:(fK s).2;·have:fK s=(fZ,false):=Tt h;rw[this];decide
 ·exact Hx (Tu h).1
def UC(fs:List aM):wL wS (eL fs)<=(wL aL fs+1)*(wL aL fs+1):=by refine sA (λw hw=>?_) (Nl fs);unfold eL at hw;obtain⟨x,hx,rfl⟩:=aY.1 hw;have h1:=HU _ x hx;have h2:=ve fs ld;simp only[wS,dw,cX];omega
def akm(s:ah):wL wS (eL (fK s).1.fields)<=641601:=by
 have h1:=TE s;have h2:=UC (fK s).1.fields;have h3:wL aL (fK s).1.fields+1<=801:=by have:aJ (fK s).1=wL aL (fK s).1.fields+(fK s).1.body.length:=rfl;omega
 exact jB h2 (Nat.mul_le_mul h3 h3)
def JA(s:ah):(gv s).1.length<=s.length/\(gv s).2.length<=s.length:=by
 unfold gv;cases h:eC 10 s with
 |none=>simp
 |some p=>have:=PU h;simp only[wQ];omega
def PW(s:ah):∃b,Lib.cut s [10]=((gv s).1,(gv s).2,b):=by
 rw[EB];unfold gv;cases h:eC 10 s with
 |none=>exact⟨_,rfl⟩
 |some p=>exact⟨_,rfl⟩
def Uo:∀(n:Nat) (s:ah),(eu n s).1.length=n/\(∀v∈(eu n s).1,v.length<=s.length)/\(eu n s).2.length<=s.length
 |0,s=>by simp[eu]
 |n+1,s=>by
  have h1:=JA s;have ih:=Uo n (gv s).2;rw[eu];refine⟨by simp[ih.1],λv hv=>?_,by simp only;omega⟩;rcases bM.1 hv with rfl|hv;·exact h1.1
  ·have:=ih.2.1 v hv;omega
def OB(s p:ah)(tt:Int)(n:Nat)(hn:n<=4):∀(m i:Nat) (g:List ah) (t:ah),i+m=n->g.length=i->t.length<=16777216->
  bh (aA (ev LI TT) (aB TT) Cf) [(0,.str ⟨s.toArray⟩),(2,.ptr .own (cE .own jq)),(5,.str ⟨t.toArray⟩),(12,.ptr .own (cE .own ⟨p,[],g,fZ,tt⟩)),(60,.int .i64 n),(61,.int .i64 i)]=some (.exit 0,[(0,.str ⟨s.toArray⟩),(2,.ptr .own (cE .own jq)),(5,.str ⟨((eu m t).2).toArray⟩),(12,.ptr .own (cE .own ⟨p,[],g++(eu m t).1,fZ,tt⟩)),(60,.int .i64 n),(61,.int .i64 n),(62,.bool false)])
 |0,i,g,t,hi,hg,ht=>by
  have:i=n:=by omega
  subst this;rw[fm];simp -implicitDefEqProofs [Cf,K9,eu,fZ,jq]
 |m+1,i,g,t,hi,hg,ht=>by
  have hl:i<n:=by omega
  have hw:=bY i (by omega);obtain⟨b,hb⟩:=PW t;have u1:=xm t [10] (by omega);rw[hb] at u1;have hlz:(g.length+1)*16<=140737488355328:=by omega
  have hc:=JA t
  have hstep:aA (ev LI TT) (aB TT) Cf [(0,.str ⟨s.toArray⟩),(2,.ptr .own (cE .own jq)),(5,.str ⟨t.toArray⟩),(12,.ptr .own (cE .own ⟨p,[],g,fZ,tt⟩)),(60,.int .i64 n),(61,.int .i64 i)]=some (.normal,[(0,.str ⟨s.toArray⟩),(2,.ptr .own (cE .own jq)),(5,.str ⟨((gv t).2).toArray⟩),(12,.ptr .own (cE .own ⟨p,[],g++[(gv t).1],fZ,tt⟩)),(60,.int .i64 n),(61,.int .i64 ((i+1:Nat):Int))]):=by
   try simp at u1
   simp -implicitDefEqProofs [Cf,K9,fZ,jq,hl,hw,u1,hlz,cZ]
  rw[fm,hstep];have ih:=OB s p tt n hn m (i+1) (g++[(gv t).1]) (gv t).2 (by omega) (by simp;omega) (by omega);rw[sJ] at ih;exact ih
def XV(s:ah)(hb:s.length<=16777216):ev LI TT 121 [.str ⟨s.toArray⟩]=some (.ak [.agg (cE .own ((jR s).1)),.bool ((jR s).2)],[.dead]):=by
 rw[aE (b:=qd) (rs:=[.c 2 7 true 60,.t 3]) (n:=1) rfl rfl];have u1:=xm s [10] (by omega);obtain⟨cb,hcb⟩:=PW s;rw[hcb] at u1;have hc:=JA s;rw[afp];have eo:zf s=(wE (cu 32 (gv s).1)).bind λw=>(cz w.2.1).bind λt=>(cz w.2.2).bind λn=>C3 w.1 t n (gv s).2:=rfl;rw[eo];clear eo hcb;generalize gv s=ln at u1 hc⊢;obtain⟨l,b⟩:=ln;simp only at u1 hc⊢;have u2:=uR l 32 (by omega);have hm:=zA 32 l;by_cases h4:(cu 32 l).length=4;rotate_left
 ·have J5:¬(((cu 32 l).length:Int)=4):=by omega
  have Fo:wE (cu 32 l)=none:=by unfold wE;split;(rename_i e;rw[e] at h4;simp at h4);rfl
  rw[Fo];try simp at u1 u2
  simp -implicitDefEqProofs [qd,u1,u2,J5,jq,fZ]
 obtain⟨w0,w1,w2,w3,hw⟩:=Ss h4;rw[hw] at u2 hm⊢;have Kw:=hm w1 (by simp);have u3:=uM w2 (by have:=hm w2 (by simp);omega);have u4:=uM w3 (by have:=hm w3 (by simp);omega);simp only[wE,jC];cases h2:cz w2 with
 |none=>rw[h2] at u3;simp at u1 u2 u3 u4;simp -implicitDefEqProofs [qd,u1,u2,u3,u4,jq,fZ]
 |some t=>
 cases h3:cz w3 with
 |none=>rw[h2] at u3;rw[h3] at u4;simp at u1 u2 u3 u4;simp -implicitDefEqProofs [qd,u1,u2,u3,u4,jq,fZ]
 |some n=>
 rw[h2] at u3;rw[h3] at u4;simp only[jC];unfold C3;by_cases g:n<=4;rotate_left
 ·have g':4<(n:Int):=by omega
  simp at u1 u2 u3 u4;simp -implicitDefEqProofs [qd,u1,u2,u3,u4,g,g',jq,fZ]
 have g':¬4<(n:Int):=by omega
 have u5:=OB s w1 (t:Nat) n g n 0 [] b (by omega) rfl (by omega);have hv:=Uo n b;have u6:=XX (eu n b).2 (by omega);have hrw:=TE (eu n b).2;have hvw:=akm (eu n b).2;have hrf:aJ (fK (eu n b).2).1=wL aL (fK (eu n b).2).1.fields+(fK (eu n b).2).1.body.length:=rfl;have u7:=Ek (fK (eu n b).2).1.fields (by omega);have hvs:wL wS (eu n b).1<=4*(16777216+1):=sA (λv eZ=>by have:=hv.2.1 v eZ;simp only[wS];omega) (by omega);have u8:=O4 ⟨w1,eL (fK (eu n b).2).1.fields,(eu n b).1,(fK (eu n b).2).1,(t:Nat)⟩ (by simp only[aU];omega);rw[aq g];generalize eL (fK (eu n b).2).1.fields=vo at u7 u8⊢;generalize fK (eu n b).2=rr at u6 u7 u8⊢;obtain⟨⟨rst,rfs,rbd⟩,rok⟩:=rr;simp only at u6 u7 u8⊢;generalize eu n b=tv at u5 u6 u8⊢;obtain⟨vs,rest⟩:=tv;simp only[jq,fZ,kB] at u5 u6 u8⊢;simp at u1 u2 u3 u4 u5 u6 u7;cases rok;·simp -implicitDefEqProofs [qd,u1,u2,u3,u4,u5,u6,u7,g']
 by_cases gt:fJ ⟨w1,vo,vs,⟨rst,rfs,rbd⟩,(t:Int)⟩=s;·rw[gt] at u8;simp at u8;simp -implicitDefEqProofs [qd,u1,u2,u3,u4,u5,u6,u7,u8,g',gt]
 simp at u8;simp -implicitDefEqProofs [qd,u1,u2,u3,u4,u5,u6,u7,u8,g',gt,eq_false gt];all_goals (repeat' split)<;>first|rfl|omega|(simp_all;done)|(simp_all;omega)|skip
end M
set_option maxHeartbeats 4000000
namespace M
open Go
variable [Lb]
end M
set_option maxHeartbeats 4000000
namespace M
open Go
variable [Lb]
def rV{α:Type}(T:List α)(n:Nat)(a:α)(h:T[n]?=some a)(g:α->α):T.modify n g=T.set n (g a):=by
 apply iE;intro j;rw[wV,sL];by_cases e:n=j;·subst e;obtain⟨hi,hh⟩:=aQ.1 h;have hg:T[n]=a:=hh;simp[hg,hi]
 ·simp[e]
def iz{α:Type}(T:List α)(n:Nat)(a:α)(g:α->α):(T.set n a).modify n g=T.set n (g a):=by
 apply iE;intro j;rw[wV,sL,sL];by_cases e:n=j;·subst e;by_cases h:n<T.length<;>simp[h]
 ·simp[e]
def dA(k:Kp):List X:=[.str ⟨k.obj.path.toArray⟩,.dead,.dead,.int .i64 k.obj.resp.status,.dead,.str ⟨k.obj.resp.body.toArray⟩,.int .i64 k.obj.t,.int .i64 k.at_,.int .i64 k.seq]
def ako{α:Type}(w:α->Nat)(l:List α)(i:Nat)(v:α):wL w (l.set i v)<=wL w l+w v:=by
 unfold wL;rw[Iv];induction l generalizing i with
 |nil=>simp
 |cons a l ih=>
  cases i with
  |zero=>simp;omega
  |succ i=>have:=ih i;simp at this⊢;omega
def oT{α:Type}(w:α->Nat)(a b:List α):wL w (a++b)=wL w a+wL w b:=by unfold wL;simp;omega
def UJ{α:Type}(w:α->Nat)(p:α->Bool)(l:List α):wL w (l.filter p)<=wL w l:=by
 induction l with
 |nil=>simp[wL]
 |cons a l ih=>rw[DR];split<;>simp[wL] at ih⊢ <;>omega
def JW(k:Nat->Bool):∀(ws:List Wr) (i:Nat) (cs:List ah),wL wS (foldI (kn k) i ws cs)<=wL wS cs+wL fC ws
 |[],i,cs=>by simp[foldI]
 |w::ws,i,cs=>by
  have h:=JW k ws (i+1) (kn k i cs w)
  have h2:wL wS (kn k i cs w)<=wL wS cs+fC w:=by
   unfold kn;split;·exact ako wS cs _ w.text
   ·omega
  have h3:wL fC (w::ws)=fC w+wL fC ws+1:=by simp[wL];omega
  rw[foldI];omega
def EU(d:bR):dm (dZ d)<=dm d:=by have:=JW (kj [] true) d.pending 0 d.cells;show wL wS (rR (kj [] true) d.cells d.pending)+wL fC []<=wL wS d.cells+wL fC d.pending;unfold rR;have h:wL fC ([]:List Wr)=0:=rfl;omega
def Tn(d:bR)(a:Int)(t:ah):dm (me d a t)<=dm d+t.length+1:=by
 have h:=EU d;have h1:wL fC [⟨a,t⟩]=t.length+1:=by simp[wL,fC];omega
 unfold me;split;·show wL wS (dZ d).cells+wL fC [⟨a,t⟩]<=_;have h2:dm (dZ d)=wL wS (dZ d).cells+wL fC []:=rfl;have h:wL fC ([]:List Wr)=0:=rfl;omega
 ·show wL wS d.cells+wL fC (d.pending++[⟨a,t⟩])<=wL wS d.cells+wL fC d.pending+t.length+1;rw[oT];omega
structure WC (s:Sh):Prop where
 d:eR s.aP=true
 b:(s.aG.length:Int)<=5
 n:5<=s.next/\s.next<=19
 q:1<=s.seq/\s.seq<=100000
 bs:bq eX s.aG=true
 os:uj s.seq s.aC=true
def si{s:Sh}(h:eT s=true):WC s:=by unfold eT at h;simp only[av,bx] at h;exact⟨h.1.1.1.1.1,h.1.1.1.1.2,h.1.1.1.2,h.1.1.2,h.1.2,h.2⟩
def ahj{s:Sh}(h:eT s=true){k:Kp}(hk:k∈s.aC):dy k.obj=true:=by unfold eT at h;simp only[av] at h;have:=h.2;unfold uj at this;obtain⟨i,hi,rfl⟩:=nO hk;have h2:=gj.1 this (s.aC[i],i) (sE (i:=i) (by simp[hi]));unfold yL at h2;simp only[av] at h2;exact h2.1.1.1.1
end M
set_option maxHeartbeats 4000000
namespace M
open Go
variable [Lb]
def Q5(d:bR)(a:Int):(dX d a).length<=dm d:=by
 have hw:dm d=wL wS d.cells+wL fC d.pending:=rfl;unfold dX;rw[JX];cases h:d.pending.reverse.find? (λw=>decide (w.at_=a)) with
 |none=>
  simp only[Option.elim_none];rw[lE];cases h2:d.cells[a.toNat]? with
  |none=>simp
  |some s=>have:=gB (w:=wS) (sE h2);simp only[wS] at this;simp only[wQ];omega
 |some w=>have:=Vf h;have:=gB (w:=fC) (NK.1 this);simp only[fC] at this;simp only[Option.elim_some];omega
def VV(d:bR)(a:Int)(hb:d.pending.length<=9223372036854775807):bh (aA (ev LI TT) (aB TT) BX) [(0,.ptr .af (gw .af d)),(1,.int .i64 a),(5,.int .i64 (d.pending.length - 1))]=
  (d.pending.reverse.find? (λw=>decide (w.at_=a))).elim (some (.exit 0,[(0,.ptr .af (gw .af d)),(1,.int .i64 a),(5,.int .i64 (-1)),(13,.bool false)])) (λw=>some (.ret,[(4,.str ⟨w.text.toArray⟩)])):=by
 refine aey (f:=aA (ev LI TT) (aB TT) BX) d.pending (λi=>[(0,.ptr .af (gw .af d)),(1,.int .i64 a),(5,.int .i64 i)]) (λw=>decide (w.at_=a)) (λw=>[(4,.str ⟨w.text.toArray⟩)]) _ (λi b hi hl=>?_) ?_;·have hw:IntKind.i64.wrap ((i:Int) - 1)=i - 1:=dz (by omega) (by omega);obtain⟨_,rfl⟩:=aQ.1 hi;simp -implicitDefEqProofs [BX,K4,hl,hw]
 ·simp -implicitDefEqProofs [BX,K4]
def OZ(d:bR)(a:Int)(hb:d.pending.length<=9223372036854775807)(h0:0<=a)(h1:a<d.cells.length):ev LI TT 118 [.ptr .af (gw .af d),.int .i64 a]=some (.str ⟨(dX d a).toArray⟩,[.dead,.dead]):=by
 rw[aE (b:=FK) (rs:=[.t 4]) (n:=2) rfl rfl];have h:=VV d a hb;have hw:IntKind.i64.wrap ((d.pending.length:Int) - 1)=d.pending.length - 1:=dz (by omega) (by omega);have h2:a.toNat<d.cells.length:=by omega
 simp at h;unfold dX;rw[JX];simp -implicitDefEqProofs [FK,hw,h];cases d.pending.reverse.find? (λw=>decide (w.at_=a))<;>simp[h0,h2]
def Pn(x:Int):ev LI TT 153 [.int .i64 x]=some (.bool false,[.dead]):=by rw[aE (b:=HW) (rs:=[.t 2]) (n:=1) rfl rfl];simp -implicitDefEqProofs [HW];all_goals (repeat' split)<;>first|rfl|omega|(simp_all;done)|(simp_all;omega)|skip
def s7(a b:Int):Int:=if a<b then -1 else if b<a then 1 else 0
def Yq(a:Int)(b:Int):ev LI TT 124 [.int .i64 a,.int .i64 b]=some (.int .i64 (s7 a b),[.dead,.dead]):=by
 rw[aE (b:=HV) (rs:=[.t 4]) (n:=2) rfl rfl];unfold s7;by_cases g1:a<b;all_goals by_cases g2:b<a
 all_goals
 have u1:=Pn a;try simp at u1
 have u2:=Pn b;try simp at u2
 simp -implicitDefEqProofs [HV,u1,u2,g1,g2];all_goals (repeat' split)<;>first|rfl|omega|(simp_all;done)|(simp_all;omega)|skip
def Pa(a b:Kp):ev LI TT 123 [.agg (au .af a),.agg (au .af b)]=some (.int .i64 (s7 a.seq b.seq),[.dead,.dead]):=by
 rw[aE (b:=F3) (rs:=[.t 4]) (n:=2) rfl rfl];have u1:=Yq a.seq b.seq;try simp at u1
 simp -implicitDefEqProofs [F3,u1];all_goals (repeat' split)<;>first|rfl|omega|(simp_all;done)|(simp_all;omega)|skip
def ahh{α:Type}(A:List α)(x k:α)(B:List α)(n:Nat)(hn:n=A.length):((A++x::k::B).set (n+1) x).set n k=A++k::x::B:=by subst hn;simp[List.set_append]
def VJ(a b:Int)(fi:Int)(T:List (List X))(j:Nat)(x k:Kp)(hj:j+1<T.length)(hx:T[j]=au .own x)(hk:T[j+1]=au .own k)(hb:T.length<=1073741824)(ha:a=0)(hlt:k.seq<x.seq):
  aA (ev LI TT) (aB TT) uy [(0,.ref 100000 []),(1,.int .i64 a),(2,.int .i64 b),(3,.fn 123 []),(8,.int .i64 fi),(9,.int .i64 ((j+1:Nat):Int)),(100000,.row .own 9 T)]=some (.normal,[(0,.ref 100000 []),(1,.int .i64 a),(2,.int .i64 b),(3,.fn 123 []),(8,.int .i64 fi),(9,.int .i64 (j:Nat)),(100000,.row .own 9 ((T.set (j+1) (au .own x)).set j (au .own k)))]):=by
 subst ha;have hw:IntKind.i64.wrap ((j:Int)+1 - 1)=j:=by rw[show ((j:Int)+1 - 1)=j by omega];exact dz (by omega) (by omega)
 have dF:IntKind.i64.wrap (j:Int)=j:=dz (by omega) (by omega);have u1:=Pa k x;have hc:s7 k.seq x.seq=-1:=by unfold s7;rw[aq hlt]
 rw[hc] at u1;have hj':j<T.length:=by omega
 have h0:(0:Int)<(j:Int)+1:=by omega
 have h1:(0:Int)<=(j:Int)+1:=by omega
 have hm:=rV T (j+1) _ (aQ.2 ⟨hj,hk⟩);have hm0:=rV T j _ (aQ.2 ⟨hj',hx⟩);have Kw:∀w g,(T.set j w).modify (j+1) g=(T.set j w).set (j+1) (g (au .own k)):=λw g=>rV (T.set j w) (j+1) _ (by rw[List.getElem?_set_ne (by omega)];exact aQ.2 ⟨hj,hk⟩) g;have hm2:∀w v g,((T.set j w).set (j+1) v).modify j g=(T.set (j+1) v).set j (g w):=λw v g=>by rw[List.set_comm _ _ (by omega:j≠j+1),iz]
 have ho:aB TT 123=true:=rfl;try simp at hx hk u1 hm hm0 Kw
 simp -implicitDefEqProofs [uy,H7,wI,zM,wJ,zN,zP,hw,dF,hj,hj',hx,hk,u1,h0,h1,ho,lW,hm,hm0,Kw,hm2,iz,ghost,kR]
def VI(b:Int)(fi:Int)(T:List (List X))(j:Nat)(x k:Kp)(hj:j+1<T.length)(hx:T[j]=au .own x)(hk:T[j+1]=au .own k)(hb:T.length<=1073741824)(hlt:¬k.seq<x.seq):
  aA (ev LI TT) (aB TT) uy [(0,.ref 100000 []),(1,.int .i64 0),(2,.int .i64 b),(3,.fn 123 []),(8,.int .i64 fi),(9,.int .i64 ((j+1:Nat):Int)),(100000,.row .own 9 T)]=some (.exit 2,[(0,.ref 100000 []),(1,.int .i64 0),(2,.int .i64 b),(3,.fn 123 []),(8,.int .i64 fi),(9,.int .i64 ((j+1:Nat):Int)),(34,.bool false),(100000,.row .own 9 T)]):=by
 have dF:IntKind.i64.wrap (j:Int)=j:=dz (by omega) (by omega);have u1:=Pa k x;have hc:¬s7 k.seq x.seq<0:=by unfold s7;rw[ay hlt];split<;>omega
 obtain⟨z,hz⟩:∃z,s7 k.seq x.seq=z:=⟨_,rfl⟩;rw[hz] at u1 hc;have hj':j<T.length:=by omega
 have h0:(0:Int)<(j:Int)+1:=by omega
 have h1:(0:Int)<=(j:Int)+1:=by omega
 have ho:aB TT 123=true:=rfl;try simp at hx hk u1
 simp -implicitDefEqProofs [uy,H7,wI,zM,wJ,zN,zP,dF,hj,hj',hx,hk,u1,hc,h0,h1,ho,lW]
def VK(b:Int)(fi:Int)(T:List (List X)):
  aA (ev LI TT) (aB TT) uy [(0,.ref 100000 []),(1,.int .i64 0),(2,.int .i64 b),(3,.fn 123 []),(8,.int .i64 fi),(9,.int .i64 0),(100000,.row .own 9 T)]=some (.exit 2,[(0,.ref 100000 []),(1,.int .i64 0),(2,.int .i64 b),(3,.fn 123 []),(8,.int .i64 fi),(9,.int .i64 0),(34,.bool false),(100000,.row .own 9 T)]):=by simp -implicitDefEqProofs [uy,H7,wI,zM,wJ,zN,zP]
def Oy(b fi:Int)(k:Kp)(R:List Kp):∀(rev done:List Kp),(rev.length+done.length+R.length+1<=1073741824)->∃j:Nat,
  bh (aA (ev LI TT) (aB TT) uy) [(0,.ref 100000 []),(1,.int .i64 0),(2,.int .i64 b),(3,.fn 123 []),(8,.int .i64 fi),(9,.int .i64 (rev.length:Nat)),(100000,.row .own 9 ((rev.reverse++k::(done++R)).map (au .own)))]=some (.exit 2,[(0,.ref 100000 []),(1,.int .i64 0),(2,.int .i64 b),(3,.fn 123 []),(8,.int .i64 fi),(9,.int .i64 (j:Nat)),(34,.bool false),(100000,.row .own 9 ((yG Kp.seq k rev done++R).map (au .own)))])
 |[],done,_=>by refine⟨0,?_⟩;rw[fm];have:=VK b fi ((k::(done++R)).map (au .own));simp only[List.reverse_nil,kB,jE];rw[show (((0:Nat):Int))=0 from rfl,this];rfl
 |x::rev,done,hb=>by
  simp only[di] at hb;have hl:((x::rev).reverse++k::(done++R)).length=rev.length+done.length+R.length+2:=by simp;omega
  have e1:(x::rev).reverse++k::(done++R)=rev.reverse++x::k::(done++R):=by simp
  have hx:((rev.reverse++x::k::(done++R)).map (au .own))[rev.length]'(by simp)=au .own x:=by simp
  have hk:((rev.reverse++x::k::(done++R)).map (au .own))[rev.length+1]'(by simp)=au .own k:=by simp
  rw[e1,di];unfold yG;by_cases g:k.seq<x.seq
  ·rw[aq g];obtain⟨j,hj⟩:=Oy b fi k R rev (x::done) (by simp;omega);refine⟨j,?_⟩;have hs:=VJ 0 b fi ((rev.reverse++x::k::(done++R)).map (au .own)) rev.length x k (by simp) hx hk (by rw[cX,<-e1,hl];omega) rfl g;rw[fm,hs];have e2:(((rev.reverse++x::k::(done++R)).map (au .own)).set (rev.length+1) (au .own x)).set rev.length (au .own k)=(rev.reverse++k::((x::done)++R)).map (au .own):=by have:=ahh (rev.reverse.map (au .own)) (au .own x) (au .own k) ((done++R).map (au .own)) rev.length (by simp);first|(simp;done)|simpa using this
   rw[e2];exact hj
  ·rw[ay g];refine⟨rev.length+1,?_⟩;have hs:=VI b fi ((rev.reverse++x::k::(done++R)).map (au .own)) rev.length x k (by simp) hx hk (by rw[cX,<-e1,hl];omega) g;rw[fm,hs];have e2:(x::rev).reverse++k::done++R=rev.reverse++x::k::(done++R):=by simp
   rw[e2];rfl
end M
set_option maxHeartbeats 4000000
namespace M
open Go
variable [Lb]
def Oz(n:Nat)(hn:n<=1073741824):∀(R S:List Kp),nC Kp.seq S->S.length+R.length=n->
  bh (aA (ev LI TT) (aB TT) wH) [(0,.ref 100000 []),(1,.int .i64 0),(2,.int .i64 n),(3,.fn 123 []),(8,.int .i64 (S.length:Nat)),(100000,.row .own 9 ((S++R).map (au .own)))]=some (.exit 0,[(0,.ref 100000 []),(1,.int .i64 0),(2,.int .i64 n),(3,.fn 123 []),(8,.int .i64 n),(14,.bool false),(100000,.row .own 9 ((R.foldl (λS k=>fV Kp.seq k S) S).map (au .own)))])
 |[],S,ho,hl=>by
  have:S.length=n:=by simpa using hl
  subst this;rw[fm];simp -implicitDefEqProofs [wH,H8]
 |k::R,S,ho,hl=>by
  simp only[di] at hl;have hlt:S.length<n:=by omega
  have hw:=bY S.length (by omega);obtain⟨j,hj⟩:=Oy n (S.length:Nat) k R S.reverse [] (by simp;omega);rw[Sc S.reverse [] (by simpa using ho) (by simp)] at hj;have e1:S.reverse.reverse++k::([]++R)=S++k::R:=by simp
  have e2:S.reverse.reverse++[]=S:=by simp
  rw[e1,e2,Vv] at hj
  have hstep:aA (ev LI TT) (aB TT) wH [(0,.ref 100000 []),(1,.int .i64 0),(2,.int .i64 n),(3,.fn 123 []),(8,.int .i64 (S.length:Nat)),(100000,.row .own 9 ((S++k::R).map (au .own)))]=some (.normal,[(0,.ref 100000 []),(1,.int .i64 0),(2,.int .i64 n),(3,.fn 123 []),(8,.int .i64 ((fV Kp.seq k S).length:Nat)),(100000,.row .own 9 ((fV Kp.seq k S++R).map (au .own)))]):=by
   rw[Sb];try simp at hj
   simp -implicitDefEqProofs [wH,H8,hlt,hw,hj]
  rw[fm,hstep];exact Oz n hn R (fV Kp.seq k S) (LG ho) (by rw[Sb];omega)
def YC(l:List Kp)(hb:l.length<=1073741824):ev LI TT 173 [.row .own 9 (l.map (au .own)),.int .i64 0,.int .i64 l.length,.fn 123 []]=some (.ak [],[.row .own 9 ((oP Kp.seq l).map (au .own)),.dead,.dead,.dead]):=by
 rw[aE (b:=DK) (rs:=[]) (n:=4) rfl rfl];cases l with
 |nil=>
  have h:bh (aA (ev LI TT) (aB TT) wH) [(0,.ref 100000 []),(1,.int .i64 0),(2,.int .i64 0),(3,.fn 123 []),(8,.int .i64 1),(100000,.row .own 9 [])]=some (.exit 0,[(0,.ref 100000 []),(1,.int .i64 0),(2,.int .i64 0),(3,.fn 123 []),(8,.int .i64 1),(14,.bool false),(100000,.row .own 9 [])]):=by rw[fm];simp -implicitDefEqProofs [wH,H8]
  have h1:IntKind.i64.wrap 1=1:=dz (by omega) (by omega);simp -implicitDefEqProofs [DK,h,h1,oP]
 |cons a l=>
 have h:=Oz (a::l).length hb l [a] (by simp[nC]) (by simp;omega);have h1:IntKind.i64.wrap 1=1:=dz (by omega) (by omega);have e:oP Kp.seq (a::l)=l.foldl (λS k=>fV Kp.seq k S) [a]:=rfl;rw[e];generalize l.foldl (λS k=>fV Kp.seq k S) [a]=Z at h⊢;try simp at h
 simp -implicitDefEqProofs [DK,h,h1,wI,zM,wJ,zN,zP];all_goals (repeat' split)<;>first|rfl|omega|(simp_all;done)|(simp_all;omega)|skip
def YD(l:List Kp)(hb:l.length<=15):ev LI TT 152 [.row .own 9 (l.map (au .own)),.int .i64 l.length,.fn 123 []]=some (.ak [],[.row .own 9 ((oP Kp.seq l).map (au .own)),.dead,.dead]):=by
 rw[aE (b:=H9) (rs:=[]) (n:=3) rfl rfl];have h0:¬(20:Int)<=l.length:=by omega
 have h0':¬(20:Int)<l.length:=by omega
 have h1:bh (aA (ev LI TT) (aB TT) Nw) [(0,.ref 100000 []),(1,.int .i64 l.length),(2,.fn 123 []),(6,.int .i64 20),(7,.int .i64 0),(8,.int .i64 20),(100000,.row .own 9 (l.map (au .own)))]=some (.exit 0,[(0,.ref 100000 []),(1,.int .i64 l.length),(2,.fn 123 []),(6,.int .i64 20),(7,.int .i64 0),(8,.int .i64 20),(13,.bool false),(100000,.row .own 9 (l.map (au .own)))]):=by rw[fm];simp -implicitDefEqProofs [Nw,US,h0]
 have h2:∀Z,bh (aA (ev LI TT) (aB TT) Nx) [(0,.ref 100000 []),(1,.int .i64 l.length),(2,.fn 123 []),(6,.int .i64 20),(100000,.row .own 9 Z)]=some (.exit 2,[(0,.ref 100000 []),(1,.int .i64 l.length),(2,.fn 123 []),(6,.int .i64 20),(30,.bool false),(100000,.row .own 9 Z)]):=by intro Z;rw[fm];simp -implicitDefEqProofs [Nx,UT,h0']
 have h3:=YC l (by omega);try simp at h1 h3
 simp -implicitDefEqProofs [H9,h1,h2,h3];all_goals (repeat' split)<;>first|rfl|omega|(simp_all;done)|(simp_all;omega)|skip
def YB(l:List Kp)(hb:l.length<=15):ev LI TT 122 [.row .own 9 (l.map (au .own)),.fn 123 []]=some (.ak [],[.row .own 9 ((oP Kp.seq l).map (au .own)),.dead]):=by
 rw[aE (b:=H6) (rs:=[]) (n:=2) rfl rfl];have u1:=YD l hb;try simp at u1
 simp -implicitDefEqProofs [H6,u1];all_goals (repeat' split)<;>first|rfl|omega|(simp_all;done)|(simp_all;omega)|skip
def Pc(s:Sh)(n:Int)(hs:0<=s.seq/\s.seq<=1000000)(hn:0<=n/\n<=1000000):ev LI TT 120 [.ptr .own (bp .own s),.int .i64 n]=some (.ak [],[.ptr .own (bp .own ⟨s.aP,s.aC,s.aG,s.next,if n<100000 then max s.seq (n+1) else s.seq⟩),.dead]):=by
 rw[aE (b:=yw) (rs:=[]) (n:=2) rfl rfl];have hw:IntKind.i64.wrap (n+1)=n+1:=dz (by omega) (by omega);by_cases g:n<100000;rotate_left;·simp -implicitDefEqProofs [yw,g]
 by_cases g2:n+1>s.seq
 ·have e:max s.seq (n+1)=n+1:=by omega
  have g3:s.seq<n+1:=by omega
  simp -implicitDefEqProofs [yw,g,g2,g3,hw,e]
 have e:max s.seq (n+1)=s.seq:=by omega
 have g3:¬s.seq<n+1:=by omega
 simp -implicitDefEqProofs [yw,g,g2,g3,hw,e];all_goals (repeat' split)<;>first|rfl|omega|(simp_all;done)|(simp_all;omega)|skip
def Tw(s:ah):0<=(dh s).1/\(dh s).1<=100000:=by
 cases h:(dh s).2.2;·rw[Tx h];simp
 ·have:=Hv h;omega
def Wk(d:bR)(hd:eR d=true)(hwd:dm d<=16777216):
  bh (aA (ev LI TT) (aB TT) vE) [(0,.aj 100000 [] 0 0),(8,.int .i64 0),(100000,.ptr .own (bp .own ⟨d,[],[],5,1⟩))]=
  (match jb (ox d) 0 (List.range 5) ([],0) with
   |.inl g=>some (.exit 0,[(0,.aj 100000 [] 0 0),(8,.int .i64 5),(9,.bool false),(100000,.ptr .own (bp .own ⟨d,[],g.1,5,g.2+1⟩))])
   |.inr e=>some (.ret,[(0,.aj 100000 [] 0 0),(3,.int .i64 e.2.1),(6,.ptr .own (cY e.2.2.1)),(8,.int .i64 (e.2.2.2:Nat)),(31,.bool true),(100000,.ptr .own (bp .own ⟨d,[],e.1.1,5,e.1.2+1⟩))])):=by
 obtain⟨k0,k1,k2⟩:=qq hd
 have:=SF (xt:=0) (f:=aA (ev LI TT) (aB TT) vE) (List.range 5) (λi (g:List Bn×Int)=>[(0,.aj 100000 [] 0 0),(8,.int .i64 i),(100000,.ptr .own (bp .own ⟨d,[],g.1,5,g.2+1⟩))]) (ox d)
  (λg=>[(0,.aj 100000 [] 0 0),(8,.int .i64 5),(9,.bool false),(100000,.ptr .own (bp .own ⟨d,[],g.1,5,g.2+1⟩))])
  (λe=>(.ret,[(0,.aj 100000 [] 0 0),(3,.int .i64 e.2.1),(6,.ptr .own (cY e.2.2.1)),(8,.int .i64 (e.2.2.2:Nat)),(31,.bool true),(100000,.ptr .own (bp .own ⟨d,[],e.1.1,5,e.1.2+1⟩))]))
  (λi g=>(∀b∈g.1,eX b=true)/\g.1.length<=i/\0<=g.2/\g.2<100000) ([],0) (by simp) (λi b g hi hl hg=>?_) (λi b g g' hi hg n7=>(Mh d hg).1 g' n7) (λg hg=>?_)
 ·refine Eq.trans ?_ (this.trans ?_);·simp
  ·cases jb (ox d) 0 (List.range 5) ([],0) with
   |inl g=>rfl
   |inr e=>rfl
 ·have Kt:i<5:=by simpa using hl
  have nh:(i:Int)<5:=by omega
  have hw:=bY i (by omega);have u1:=OZ d i (by omega) (by omega) (by omega);have hgw:=Q5 d i;have u2:=O5 (dX d i) (by omega);have hrl:=Tv (dX d i);have Bi:=Tw (dX d i);have u3:=Xr (dh (dX d i)).2.1 (by omega);have hlz:(g.1.length+1)*48<=140737488355328:=by omega
  unfold ox;generalize dh (dX d i)=rr at u2 u3 hrl Bi⊢;obtain⟨n,bd,ok⟩:=rr;simp only at u2 u3 hrl Bi⊢;generalize ji bd=br at u3⊢;obtain⟨⟨bk,ba,bb,bt⟩,I2⟩:=br;have u4:=Pc ⟨d,[],g.1++[⟨bk,ba,bb,bt⟩],5,g.2+1⟩ n (by simp only;omega) (by omega);have vl:(if n<100000 then max (g.2+1) (n+1) else g.2+1)=CY g.2 n+1:=by unfold CY;split<;>omega
  simp only[vl] at u4;simp at u1 u2 u3 u4;cases ok;·simp -implicitDefEqProofs [vE,Co,yt,yu,nh,hw,u1,u2,u3,lv]
  cases I2;·simp -implicitDefEqProofs [vE,Co,yt,yu,nh,hw,u1,u2,u3,lv]
  simp -implicitDefEqProofs [vE,Co,yt,yu,nh,hw,u1,u2,u3,u4,lv,hlz,cZ]
 ·simp -implicitDefEqProofs [vE,Co]
def X7(d:bR)(hd:eR d=true)(hwd:dm d<=16777216):ev LI TT 73 [.ptr .own (bp .own ⟨d,[],[],5,1⟩)]=some (.ak [],[.ptr .own (bp .own ⟨d,[],(fW d).1,5,(fW d).2+1⟩)]):=by
 rw[aE (b:=Cp) (rs:=[]) (n:=1) rfl rfl];have u1:=Wk d hd hwd;try simp at u1
 unfold fW;cases hr:jb (ox d) 0 (List.range 5) ([],0) with
 |inl g=>rw[hr] at u1;simp at u1;simp -implicitDefEqProofs [Cp,u1,I3]
 |inr e=>
 rw[hr] at u1;simp at u1;simp -implicitDefEqProofs [Cp,u1,u1,I3,yt,yu];all_goals (repeat' split)<;>first|rfl|omega|(simp_all;done)|(simp_all;omega)|skip
end M
set_option maxHeartbeats 4000000
namespace M
open Go
variable [Lb]
def SI(d:bR):wL bz (fW d).1<=1000:=by have:=yR d;have:=sA (w:=bz) (n:=120) (m:=5) (l:=(fW d).1) (λb hb=>W5 (this.1 b hb)) this.2.1;omega
def Wl(d:bR)(bs:List Bn)(m:Int)(hd:eR d=true)(hwd:dm d<=16777216)(Ru:wL bz bs<=1000)(hm:0<=m/\m<100000):
  bh (aA (ev LI TT) (aB TT) rN) [(0,.aj 100000 [] 0 0),(3,.row .own 9 []),(4,.int .i64 5),(100000,.ptr .own (bp .own ⟨d,[],bs,5,m+1⟩))]=
  some (.exit 0,[(0,.aj 100000 [] 0 0),(3,.row .own 9 ((qi bs d m).1.map (au .own))),(4,.int .i64 20),(11,.bool false),(100000,.ptr .own (bp .own ⟨d,[],bs,5,(qi bs d m).2+1⟩))]):=by
 obtain⟨k0,k1,k2⟩:=qq hd
 have:=nu (xt:=0) (f:=aA (ev LI TT) (aB TT) rN) (List.range 15) (λi (g:List Kp×Int)=>[(0,.aj 100000 [] 0 0),(3,.row .own 9 (g.1.map (au .own))),(4,.int .i64 ((5+i:Nat):Int)),(100000,.ptr .own (bp .own ⟨d,[],bs,5,g.2+1⟩))]) (yW bs d)
  (λg=>[(0,.aj 100000 [] 0 0),(3,.row .own 9 (g.1.map (au .own))),(4,.int .i64 20),(11,.bool false),(100000,.ptr .own (bp .own ⟨d,[],bs,5,g.2+1⟩))])
  (λi g=>i<=15/\w5 i g) ([],m) ⟨by omega,⟨by simp,by simp,hm,by simp,by simp,by simp⟩⟩ (λi b g hi hl hg=>?_) (λi b g hi hg=>?_) (λg hg=>?_)
 ·refine Eq.trans ?_ this;simp
 ·have Kt:i<15:=by simpa using hl
  obtain⟨at_,lP⟩:∃a,((5+i:Nat):Int)=a:=⟨_,rfl⟩;have nh:at_<20:=by omega
  have hw:IntKind.i64.wrap (at_+1)=at_+1:=dz (by omega) (by omega);have acI:((5+(i+1):Nat):Int)=at_+1:=by omega
  have u1:=OZ d at_ (by omega) (by omega) (by omega);have hgw:=Q5 d at_;have u2:=O5 (dX d at_) (by omega);have hrl:=Tv (dX d at_);have Bi:=Tw (dX d at_);have u3:=XV (dh (dX d at_)).2.1 (by omega);have how:=afr (dh (dX d at_)).2.1;have iT:=hg.2.n;have hlz:(g.1.length+1)*136<=140737488355328:=by omega
  have hgm:=hg.2.m;unfold yW;rw[lP,acI];generalize dh (dX d at_)=rr at u2 u3 hrl Bi how⊢;obtain⟨n,bd,ok⟩:=rr;simp only at u2 u3 hrl Bi how⊢;generalize jR bd=br at u3 how⊢;obtain⟨⟨op,on,ov,⟨rs,rf,rb⟩,ot⟩,I2⟩:=br;simp only at how;have u4:=Pc ⟨d,[],bs,5,g.2+1⟩ n (by simp only;omega) (by omega);have u5:=xk bs ⟨op,on,ov,⟨rs,rf,rb⟩,ot⟩ (by omega) (by omega);simp only at u5⊢;generalize fT bs ⟨op,on,ov,⟨rs,rf,rb⟩,ot⟩=hb at u5⊢;simp at u1 u2 u3;cases ok;·simp -implicitDefEqProofs [rN,vF,nh,hw,u1,u2,u3,lv]
  cases I2;·simp -implicitDefEqProofs [rN,vF,nh,hw,u1,u2,u3,lv]
  by_cases gq:n<100000;rotate_left
  ·have E1:100000<=n:=by omega
   simp -implicitDefEqProofs [rN,vF,nh,hw,u1,u2,u3,lv,gq,E1]
  have E1:¬100000<=n:=by omega
  have vl:(if n<100000 then max (g.2+1) (n+1) else g.2+1)=max g.2 n+1:=by rw[aq gq];omega
  simp only[vl] at u4;simp at u4 u5;cases hb;·simp -implicitDefEqProofs [rN,vF,nh,hw,u1,u2,u3,u4,u5,lv,hlz,cZ,gq,E1]
  ·simp -implicitDefEqProofs [rN,vF,nh,hw,u1,u2,u3,u4,u5,lv,gq,E1]
 ·have Kt:i<15:=by have:=(aQ.1 hi).1;simpa using this
  exact⟨by omega,SQ bs d Kt b hg.2⟩
 ·simp -implicitDefEqProofs [rN,vF]
def X8(d:bR)(bs:List Bn)(m:Int)(hd:eR d=true)(hwd:dm d<=16777216)(Ru:wL bz bs<=1000)(hm:0<=m/\m<100000):ev LI TT 74 [.ptr .own (bp .own ⟨d,[],bs,5,m+1⟩)]=some (.row .own 9 ((oP Kp.seq (qi bs d m).1).map (au .own)),[.ptr .own (bp .own ⟨d,[],bs,5,(qi bs d m).2+1⟩)]):=by
 rw[aE (b:=F4) (rs:=[.t 2]) (n:=1) rfl rfl];have u1:=Wl d bs m hd hwd Ru hm;try simp at u1
 have u2:=YB (qi bs d m).1 (aeB bs d m hm);try simp at u2
 simp -implicitDefEqProofs [F4,u1,u2];all_goals (repeat' split)<;>first|rfl|omega|(simp_all;done)|(simp_all;omega)|skip
def Yk(x k:Kp)(hx:aU x.obj<=1073741824)(hk:aU k.obj<=1073741824):ev LI TT 76 [.agg (au .af x),.ptr .af (au .af k)]=some (.bool (decide (x.seq=k.seq)||jy x.obj k.obj),[.dead,.dead]):=by
 rw[aE (b:=GA) (rs:=[.t 3]) (n:=2) rfl rfl];have u1:=Ji x.obj k.obj hx hk;try simp at u1
 by_cases g:x.seq=k.seq;all_goals
 simp -implicitDefEqProofs [GA,u1,g];all_goals (repeat' split)<;>first|rfl|omega|(simp_all;done)|(simp_all;omega)|skip
def Wj(d:bR)(bs:List Bn)(sq:Int)(all:List Kp)(am6:all.length<=15)(hall:∀k∈all,Iy k):
  bh (aA (ev LI TT) (aB TT) yB) [(2,.ptr .own (bp .own ⟨⟨[],[]⟩,[],[],0,0⟩)),(3,.ptr .own (bp .own ⟨d,[],bs,5,sq⟩)),(4,.row .own 9 (all.map (au .own))),(12,.ref 4 []),(13,.int .i64 all.length),(14,.int .i64 0)]=
  some (.exit 0,[(2,.ptr .own (bp .own ⟨⟨[],[]⟩,[],[],0,0⟩)),(3,.ptr .own (bp .own ⟨d,(rS all).1,bs,(rS all).2,sq⟩)),(4,.row .own 9 (all.map dA)),(12,.ref 4 []),(13,.int .i64 all.length),(14,.int .i64 all.length),(15,.bool false)]):=by
 have:=nu (xt:=0) (f:=aA (ev LI TT) (aB TT) yB) all (λi (g:List Kp×Int)=>[(2,.ptr .own (bp .own ⟨⟨[],[]⟩,[],[],0,0⟩)),(3,.ptr .own (bp .own ⟨d,g.1,bs,g.2,sq⟩)),(4,.row .own 9 ((all.take i).map dA++(all.drop i).map (au .own))),(12,.ref 4 []),(13,.int .i64 all.length),(14,.int .i64 i)]) (yQ all)
  (λg=>[(2,.ptr .own (bp .own ⟨⟨[],[]⟩,[],[],0,0⟩)),(3,.ptr .own (bp .own ⟨d,g.1,bs,g.2,sq⟩)),(4,.row .own 9 (all.map dA)),(12,.ref 4 []),(13,.int .i64 all.length),(14,.int .i64 all.length),(15,.bool false)])
  (λi g=>g.1.length<=i) ([],5) (by simp) (λi b g hi hl hg=>?_) (λi b g hi hg=>?_) (λg hg=>?_)
 ·rw[aek] at this;refine Eq.trans ?_ this;simp
 ·obtain⟨_,rfl⟩:=aQ.1 hi;have hw:=bY i (by omega);have hlz:(g.1.length+1)*136<=140737488355328:=by omega
  obtain⟨T,hT⟩:∃T,(all.take i).map dA++(all.drop i).map (au .own)=T:=⟨_,rfl⟩;have hk:=hall _ (cB hl);have u1:=Jm (all.drop (i+1)) all[i] 76 (λx=>decide (x.seq=(all[i]).seq)||jy x.obj (all[i]).obj) rfl (λx hx=>Yk x all[i] (by have:=C0 (hall x (Vh hx)).o;omega) (by have:=C0 hk.o;omega)) (by simp;omega);have u2:=Ph (all[i]).at_ hk.a;have hlb:GZ all i all[i]= !bq (λx=> !(decide (x.seq=(all[i]).seq)||jy x.obj (all[i]).obj)) (all.drop (i+1)):=by unfold GZ bq;rw[List.all_eq_not_any_not];simp
  have Ke:T.length=all.length:=by rw[<-hT];simp;omega
  have Kc:i<T.length:=by omega
  have e:all.drop i=all[i]::all.drop (i+1):=o7 hl;have RJ:((all.take i).map dA).length=i:=by rw[cX,zX];omega
  have E8:T[i]=au .own all[i]:=by
   have h2:T[i]?=some (au .own all[i]):=by rw[<-hT,nN (by omega),RJ,Ik,e];rfl
   exact(aQ.1 h2).2
  have Ro:T.set i (dA all[i])=(all.take (i+1)).map dA++(all.drop (i+1)).map (au .own):=by rw[<-hT,NO _ _ (by omega),RJ,Ik,e,bC,aS,uz hl,kF,sJ];rfl
  have hml:∀(l:List (List X)),X.cl .af l=l.map (X.dU .af):=λl=>by
   induction l with
   |nil=>rfl
   |cons a l ih=>simp[X.cl,ih]
  have kY:((X.cl .af (T.set i (dA all[i]))).take all.length).drop (i+1)=(all.map (au .af)).drop (i+1):=by
   have hd1:(((all.take (i+1)).map dA).map (X.dU .af)).length=i+1:=by rw[cX,cX,zX];omega
   rw[Vm (by rw[hml,cX,Iv];omega),Ro,hml,kF];rw[List.drop_left' hd1,cM,<-mJ];apply cv;intro x _;simp
  have hm:=rV T i _ (aQ.2 ⟨Kc,E8⟩);rw[hT,<-Ro];unfold yQ;rw[hlb];generalize bq (λx=> !(decide (x.seq=(all[i]).seq)||jy x.obj (all[i]).obj)) (all.drop (i+1))=q at u1⊢;have nh:(i:Int)<all.length:=by omega
  have vr:(i:Int)+1<=all.length:=by omega
  have hc0:(0:Int)<=(i:Int)+1:=by omega
  have ho:aB TT 76=true:=rfl;have htk:T.take all.length=T:=Vm (by omega);rw[<-Ke] at htk;try simp[dA] at u1 u2 E8 hm kY
  cases q;·simp -implicitDefEqProofs [yB,GB,hl,nh,hw,Kc,Ke,E8,hm,kY,vr,hc0,u1,u2,iz,gN,fy,e9,cZ,hlz,dA,htk]
  ·simp -implicitDefEqProofs [yB,GB,hl,nh,hw,Kc,Ke,E8,hm,kY,vr,hc0,u1,u2,iz,gN,fy,e9,cZ,hlz,dA,htk]
 ·unfold yQ;split;·omega
  ·simp;omega
 ·simp -implicitDefEqProofs [yB,GB]
end M
set_option maxHeartbeats 4000000
namespace M
open Go
variable [Lb]
def HB:Sh:=⟨⟨List.replicate 20 [],[]⟩,[],[],5,1⟩
def XJ:ev LI TT 26 []=some (.agg (gw .own ⟨List.replicate 20 [],[]⟩),[]):=by rw[aE (b:=FH) (rs:=[.c 0 2 true 33]) (n:=0) rfl rfl];simp -implicitDefEqProofs [FH];all_goals (repeat' split)<;>first|rfl|omega|(simp_all;done)|(simp_all;omega)|skip
def X0:ev LI TT 15 []=some (.agg (bp .own HB),[]):=by
 rw[aE (b:=FX) (rs:=[.c 0 6 true 37]) (n:=0) rfl rfl];have u1:=XJ;try simp at u1
 simp -implicitDefEqProofs [FX,u1,HB];all_goals (repeat' split)<;>first|rfl|omega|(simp_all;done)|(simp_all;omega)|skip
def Jk(d:bR)(hd:eR d=true)(hwd:dm d<=16777216):ev LI TT 41 [.agg (gw .own d)]=some (.agg (bp .own (iw d)),[.dead]):=by rw[aE (b:=GC) (rs:=[.c 2 6 true 37]) (n:=1) rfl rfl];have B:=yR d;have O:=CS d;have u1:=X7 d hd hwd;have u2:=X8 d (fW d).1 (fW d).2 hd hwd (SI d) B.2.2;have u3:=Wj d (fW d).1 ((nv d).2+1) (iY d) (SG d) (λk hk=>(G5 hk).1);rw[show qi (fW d).1 d (fW d).2=nv d from rfl,show oP Kp.seq (nv d).1=iY d from rfl] at u2;have e:iw d=⟨d,(rS (iY d)).1,(fW d).1,(rS (iY d)).2,(nv d).2+1⟩:=rfl;rw[e];clear e B O;generalize rS (iY d)=lk at u3⊢;generalize iY d=all at u2 u3;generalize nv d=od at u2 u3⊢;generalize fW d=mb at u1 u2 u3⊢;obtain⟨aC,nx⟩:=lk;obtain⟨od1,od2⟩:=od;obtain⟨bs,ms⟩:=mb;simp at u1 u2 u3;simp -implicitDefEqProofs [GC,u1,u2,u3];all_goals (repeat' split)<;>first|rfl|omega|(simp_all;done)|(simp_all;omega)|skip
end M
namespace M
open Go
variable [Lb]
def MT(c:Ca)(k:Int):Option (Nat×Rp):=cS (λx=>decide (x.client=k)) 0 c.sent
def zx(c:Ca)(k:Int):aV:=(MT c k).elim ⟨0,[],[]⟩ λx=>x.2.resp
def Hz(c:Ca)(k:Int):Bool:=(MT c k).isSome
def ahg{c:Ca}{x:Rp}(hx:x∈c.sent):aJ x.resp<=aN c:=by
 have h1:=gB (w:=cL) hx;have h2:cL x=bn x.q+aJ x.resp+aU x.obj:=rfl;have h5:wL cL c.sent<=aN c:=by unfold aN;omega
 omega
def ahf{c:Ca}{x:Rp}(hx:x∈c.sent):x.resp.fields.length<=aN c:=by have h1:=ahg hx;have h2:aJ x.resp=wL aL x.resp.fields+x.resp.body.length:=rfl;have h3:=bg (w:=aL) x.resp.fields;omega
def MS(c:Ca):c.sent.length<=aN c:=by
 have h4:=bg (w:=cL) c.sent;have h5:wL cL c.sent<=aN c:=by unfold aN;omega
 omega
def V5(c:Ca)(k:Int)(hc:aN c<=100000000):bh (aA (ev LI TT) (aB TT) Ck) [(1,.int .i64 k),(2,.ptr .own (aI .af c)),(4,.ptr .own [.int .i64 0,.row .own 2 [],.str ⟨#[]⟩]),(8,.aj 2 [] 0 9),(9,.row .af 18 (c.sent.map (dY .af))),(10,.int .i64 c.sent.length),(11,.int .i64 0)]=(cS (λx=>decide (x.client=k)) 0 (c.sent)).elim (some (.exit 0,[(1,.int .i64 k),(2,.ptr .own (aI .af c)),(4,.ptr .own [.int .i64 0,.row .own 2 [],.str ⟨#[]⟩]),(8,.aj 2 [] 0 9),(9,.row .af 18 (c.sent.map (dY .af))),(10,.int .i64 c.sent.length),(11,.int .i64 (c.sent).length),(12,.bool false)])) λx=>some (.ret,(λ(i:Nat) b=>[(4,.ptr .own (cF .own (b).resp)),(5,.bool true)]) x.1 x.2):=by
 refine vN (f:=aA (ev LI TT) (aB TT) Ck) (c.sent) (λi=>[(1,.int .i64 k),(2,.ptr .own (aI .af c)),(4,.ptr .own [.int .i64 0,.row .own 2 [],.str ⟨#[]⟩]),(8,.aj 2 [] 0 9),(9,.row .af 18 (c.sent.map (dY .af))),(10,.int .i64 c.sent.length),(11,.int .i64 i)]) (λx=>decide (x.client=k)) (λ(i:Nat) b=>[(4,.ptr .own (cF .own (b).resp)),(5,.bool true)]) _ (λi b hi hl=>?_) ?_
 ·have hw:=bY i (by have:=MS c;omega);obtain⟨_,rfl⟩:=aQ.1 hi;have u1:=pq (c.sent[i]).resp (by have:=ahf (cB hl);omega);try simp at u1
  simp -implicitDefEqProofs [Ck,Lc,hl,hw,u1]
 ·simp -implicitDefEqProofs [Ck,Lc]
def O7(c:Ca)(k:Int)(hc:aN c<=100000000):ev LI TT 10 [.agg (aI .af c),.int .i64 k]=some (.ak [.agg (cF .own (zx c k)),.bool (Hz c k)],[.dead,.dead]):=by
 rw[aE (b:=Cl) (rs:=[.c 4 3 true 47,.t 5]) (n:=2) rfl rfl];have u1:=V5 c k hc;try simp at u1
 unfold zx Hz MT;cases g:cS (λx=>decide (x.client=k)) 0 c.sent with
 |none=>rw[g] at u1;simp at u1;simp -implicitDefEqProofs [Cl,u1]
 |some x=>
 rw[g] at u1;simp at u1;simp -implicitDefEqProofs [Cl,u1];all_goals (repeat' split)<;>first|rfl|omega|(simp_all;done)|(simp_all;omega)|skip
end M
set_option maxHeartbeats 4000000
namespace M
open Go
variable [Lb]
def Jv(a:Rp)(x:Se):Bool:=decide (x.resp.status=200) && decide (x.t<=a.obj.t) && decide (x.q.method=1) && decide (x.q.path=a.obj.path) && decide (x.resp.body=a.obj.resp.body) && qC a.obj.names a.obj.values x.q.fields
def uY(c:Ca)(a:Rp):Int:=ko (Jv a) c.seen
def TN{a:Rp}(h:cL a<=100000000):a.obj.names.length<=100000000/\a.obj.values.length<=100000000:=by have q1:=bg (w:=wS) a.obj.names;have q1':=bg (w:=wS) a.obj.values;have q2:aU a.obj=a.obj.path.length+wL wS a.obj.names+wL wS a.obj.values+aJ a.obj.resp:=rfl;have q3:cL a=bn a.q+aJ a.resp+aU a.obj:=rfl;omega
def ahd{c:Ca}(h:aN c<=100000000):∀x∈c.seen,x.q.fields.length<=100000000:=by
 intro x hx;have h1:=gB (w:=fB) hx;have h2:fB x=bn x.q+aJ x.resp:=rfl;have h3:bn x.q=x.q.path.length+wL aL x.q.fields+x.q.body.length:=rfl;have h4:=bg (w:=aL) x.q.fields;have h5:wL fB c.seen<=aN c:=by unfold aN;omega
 omega
def Pt{c:Ca}(h:aN c<=100000000):c.seen.length<=100000000:=by
 have h4:=bg (w:=fB) c.seen;have h5:wL fB c.seen<=aN c:=by unfold aN;omega
 omega
def VO(c:Ca)(a:Rp)(hc:aN c<=100000000)(ha:cL a<=100000000):
  bh (aA (ev LI TT) (aB TT) pQ) [(0,.ptr .af (aI .af c)),(3,.ptr .own (dY .af a)),(5,.int .i64 (c.seen.length - 1))]=if uY c a<0 then some (.exit 0,[(0,.ptr .af (aI .af c)),(3,.ptr .own (dY .af a)),(5,.int .i64 (-1)),(14,.bool false)]) else some (.ret,[(4,.int .i64 (uY c a))]):=by
 have hcs:=Pt hc;refine aez (f:=aA (ev LI TT) (aB TT) pQ) c.seen (λi=>[(0,.ptr .af (aI .af c)),(3,.ptr .own (dY .af a)),(5,.int .i64 i)]) (Jv a) (λi=>[(4,.int .i64 i)]) _ (λi b hi hl=>?_) ?_
 ·have hw:IntKind.i64.wrap ((i:Int) - 1)=(i:Int) - 1:=dz (by omega) (by omega);obtain⟨_,rfl⟩:=aQ.1 hi;have hs:=Je a.obj.names a.obj.values (c.seen[i]).q.fields (by have:=TN ha;omega) (by have:=TN ha;omega) (by have:=ahd hc _ (cB hl);omega);unfold Jv;by_cases g1:(c.seen[i]).resp.status=200;rotate_left;·simp -implicitDefEqProofs [pQ,tQ,hl,hw,g1]
  by_cases g2:(c.seen[i]).t<=a.obj.t;rotate_left;·simp -implicitDefEqProofs [pQ,tQ,hl,hw,g1,g2]
  by_cases g3:(c.seen[i]).q.method=1;rotate_left;·simp -implicitDefEqProofs [pQ,tQ,hl,hw,g1,g2,g3]
  by_cases g4:(c.seen[i]).q.path=a.obj.path;rotate_left;·simp -implicitDefEqProofs [pQ,tQ,hl,hw,g1,g2,g3,eq_false g4]
  by_cases g5:(c.seen[i]).resp.body=a.obj.resp.body;rotate_left;·simp -implicitDefEqProofs [pQ,tQ,hl,hw,g1,g2,g3,eq_true g4,eq_false g5]
  cases g6:qC a.obj.names a.obj.values (c.seen[i]).q.fields<;>rw[g6] at hs;all_goals simp -implicitDefEqProofs [pQ,tQ,hl,hw,g1,g2,g3,eq_true g4,eq_true g5,hs]
 ·simp -implicitDefEqProofs [pQ,tQ]
def Xx(c:Ca)(a:Rp)(hc:aN c<=100000000)(ha:cL a<=100000000):ev LI TT 85 [.ptr .af (aI .af c),.agg (dY .af a)]=some (.int .i64 (uY c a),[.dead,.dead]):=by
 rw[aE (b:=Bz) (rs:=[.t 4]) (n:=2) rfl rfl];have h:=VO c a hc ha;have hcs:=Pt hc;have hw:IntKind.i64.wrap ((c.seen.length:Int) - 1)=(c.seen.length:Int) - 1:=dz (by omega) (by omega);by_cases h0:uY c a<0;·have e:uY c a=-1:=aej h0;rw[aq h0] at h;simp at h;simp -implicitDefEqProofs [Bz,h,hw,e]
 rw[ay h0] at h;simp at h;simp -implicitDefEqProofs [Bz,h,hw];all_goals (repeat' split)<;>first|rfl|omega|(simp_all;done)|(simp_all;omega)|skip
end M
set_option maxHeartbeats 4000000
namespace M
open Go
variable [Lb]
def mM:Ca:=⟨HB,[],0,[],[]⟩
def Xt:ev LI TT 7 []=some (.agg (aI .own mM),[]):=by
 rw[aE (b:=Fv) (rs:=[.c 0 10 true 42]) (n:=0) rfl rfl];have u1:=X0;try simp at u1
 simp -implicitDefEqProofs [Fv,u1,mM,HB];all_goals (repeat' split)<;>first|rfl|omega|(simp_all;done)|(simp_all;omega)|skip
def wm(p:Int×Int)(x:Rp):Int×Int:=if x.kind=1 then (IntKind.i64.wrap (p.1+1),p.2) else if x.kind=2\/x.kind=3 then (p.1,IntKind.i64.wrap (p.2+1)) else p
def V6(c:Ca)(hc:aN c<=100000000)(g:Int×Int):bh (aA (ev LI TT) (aB TT) tR) [(1,.ptr .own (aI .af c)),(4,.int .i64 g.1),(5,.int .i64 g.2),(8,.aj 1 [] 0 9),(9,.row .af 18 (c.sent.map (dY .af))),(10,.int .i64 c.sent.length),(11,.int .i64 0)]=some (.exit 0,[(1,.ptr .own (aI .af c)),(4,.int .i64 ((c.sent).foldl (wm) g).1),(5,.int .i64 ((c.sent).foldl (wm) g).2),(8,.aj 1 [] 0 9),(9,.row .af 18 (c.sent.map (dY .af))),(10,.int .i64 c.sent.length),(11,.int .i64 (c.sent).length),(12,.bool false)]):=by
 refine G4 (f:=aA (ev LI TT) (aB TT) tR) (c.sent) (λi (g:Int×Int)=>[(1,.ptr .own (aI .af c)),(4,.int .i64 g.1),(5,.int .i64 g.2),(8,.aj 1 [] 0 9),(9,.row .af 18 (c.sent.map (dY .af))),(10,.int .i64 c.sent.length),(11,.int .i64 i)]) (wm) (λg=>[(1,.ptr .own (aI .af c)),(4,.int .i64 g.1),(5,.int .i64 g.2),(8,.aj 1 [] 0 9),(9,.row .af 18 (c.sent.map (dY .af))),(10,.int .i64 c.sent.length),(11,.int .i64 (c.sent).length),(12,.bool false)]) (λ_ _=>True) g trivial (λi b g hi hl _=>?_) (λ_ _ _ _ _=>trivial) (λg _=>?_)
 ·have hw:=bY i (by have:=MS c;omega);obtain⟨_,rfl⟩:=aQ.1 hi;unfold wm;by_cases g1:(c.sent[i]).kind=1;·simp -implicitDefEqProofs [tR,yq,hl,hw,g1]
  by_cases g2:(c.sent[i]).kind=2;·simp -implicitDefEqProofs [tR,yq,hl,hw,g1,g2]
  by_cases g3:(c.sent[i]).kind=3;·simp -implicitDefEqProofs [tR,yq,hl,hw,g1,g2,g3]
  simp -implicitDefEqProofs [tR,yq,hl,hw,g1,g2,g3]
 ·simp -implicitDefEqProofs [tR,yq]
def XZ(c:Ca)(hc:aN c<=100000000):ev LI TT 11 [.agg (aI .af c)]=some (.ak [.int .i64 ((c.sent.foldl wm (0,0)).1),.int .i64 ((c.sent.foldl wm (0,0)).2)],[.dead]):=by
 rw[aE (b:=FW) (rs:=[.t 2,.t 3]) (n:=1) rfl rfl];have u1:=V6 c hc (0,0);try simp at u1
 simp -implicitDefEqProofs [FW,u1];all_goals (repeat' split)<;>first|rfl|omega|(simp_all;done)|(simp_all;omega)|skip
def Yp(code:List UInt8):ev LI TT 5 [.row .af 1 (code.map eU)]=some (.bool (decide (1048576<code.length)),[.dead]):=by rw[aE (b:=GY) (rs:=[.t 2]) (n:=1) rfl rfl];simp -implicitDefEqProofs [GY];omega
def Yo(code:List UInt8)(hl:code.length<=1048576):∃a:Nat,a<=255/\ev LI TT 6 [.row .af 1 (code.map eU),.int .i64 1]=some (.int .i64 a,[.dead,.dead]):=by
 by_cases h:1<code.length
 ·refine⟨(code[1]).toNat,by have:=(code[1]).toNat_lt;omega,?_⟩;have hw:IntKind.i64.wrap ((code[1]).toNat:Int)=(code[1]).toNat:=by have:=(code[1]).toNat_lt;exact dz (by omega) (by omega)
  have h2:(1:Int)<code.length:=by omega
  rw[aE (b:=yN) (rs:=[.t 4]) (n:=2) rfl rfl];simp -implicitDefEqProofs [yN,h,h2,hw]
 ·refine⟨(7+code.length)%256,by omega,?_⟩;have h2:¬(1:Int)<code.length:=by omega
  have hw:IntKind.i64.wrap (7+(code.length:Int))=7+code.length:=dz (by omega) (by omega);have h7:IntKind.i64.wrap 7=7:=dz (by omega) (by omega);have ht:(7+(code.length:Int)).tmod 256=(((7+code.length)%256:Nat):Int):=by rw[Ip (by omega)];omega
  rw[aE (b:=yN) (rs:=[.t 4]) (n:=2) rfl rfl];simp -implicitDefEqProofs [yN,h,h2,h7,hw,ht]
end M
set_option maxHeartbeats 4000000
namespace M
open Go
variable [Lb]
end M
set_option maxHeartbeats 4000000
namespace M
open Go
variable [Lb]
def Mm(d:bR):cx (iw d)<=dm d+25000:=by have h1:=SI d;have h2:wL cQ (iW (iY d))<=15*(1300+1):=sA (λk hk=>C0 (G5 ((yO _).subset hk)).1.o) (jB (yO _).length_le (SG d));show dm d+wL cQ (iW (iY d))+wL bz (fW d).1<=_;omega
end M
namespace M
open Go
variable [Lb]
def Hf:(⟨#[97,103,101]⟩:ByteArray)=⟨gJ.toArray⟩:=rfl
def I8(q:Rq)(o:Ob)(now:Int)(h1:bn q<=100000000)(h2:aU o<=100000000)(h3:bI o.t)(h4:bI now):ev LI TT 84 [.agg (dN .af q),.agg (cE .af o),.int .i64 now]=some (.agg (cF .own (answer q o now)),[.dead,.dead,.dead]):=by
 rw[aE (b:=vw) (rs:=[.c 6 3 true 47]) (n:=3) rfl rfl];have hw:aU o=o.path.length+wL wS o.names+wL wS o.values+aJ o.resp:=rfl;have dF:aJ o.resp=wL aL o.resp.fields+o.resp.body.length:=rfl;have oa:bn q=q.path.length+wL aL q.fields+q.body.length:=rfl;have l1:=bg (w:=aL) o.resp.fields;have l2:=bg (w:=aL) q.fields;have l3:=vV (gU o.resp.fields o.t now);have l4:=MU o.resp;have l5:=bg (w:=aL) (o.resp.fields.filter iO);have l6:=Dh o.resp.fields gJ (dn (gU o.resp.fields o.t now));have l7:=Dh (o.resp.fields.filter iO) gJ (dn (gU o.resp.fields o.t now));have l8:gJ.length=3:=rfl;unfold answer;have u1:=pq o.resp (by omega);try simp at u1
 have u2:=XY q o.resp.fields (by omega) (by omega);try simp at u2
 have u3:=Yb o.resp (by omega);try simp at u3
 have u4:=OS o.resp.fields o.t now (by omega) h3 h4;try simp at u4
 have u5:=Ei (gU o.resp.fields o.t now);try simp at u5
 have u6:=Jc o.resp.fields gJ (dn (gU o.resp.fields o.t now)) (by omega);try simp at u6
 have u7:=Jc (o.resp.fields.filter iO) gJ (dn (gU o.resp.fields o.t now)) (by omega);try simp at u7
 have u8:=uO ⟨o.resp.status,iM o.resp.fields gJ (dn (gU o.resp.fields o.t now)),o.resp.body⟩ (by unfold aJ;simp only;omega);try simp at u8
 have u9:=uO ⟨304,iM (o.resp.fields.filter iO) gJ (dn (gU o.resp.fields o.t now)),[]⟩ (by unfold aJ;simp;omega);try simp at u9
 have bD:=pq ⟨304,o.resp.fields.filter iO,[]⟩ (by simp only;omega);try simp at bD
 by_cases g1:wk q o.resp.fields=true
 ·by_cases g2:fA ⟨304,iM (o.resp.fields.filter iO) gJ (dn (gU o.resp.fields o.t now)),[]⟩=true;·simp -implicitDefEqProofs [vw,u1,u2,u3,u4,u5,u6,u7,u8,u9,bD,g1,g2,Hf,qB]
  ·simp -implicitDefEqProofs [vw,u1,u2,u3,u4,u5,u6,u7,u8,u9,bD,g1,g2,Hf,qB]
 by_cases g2:fA ⟨o.resp.status,iM o.resp.fields gJ (dn (gU o.resp.fields o.t now)),o.resp.body⟩=true;·simp -implicitDefEqProofs [vw,u1,u2,u3,u4,u5,u6,u7,u8,u9,bD,g1,g2,Hf,qB]
 simp -implicitDefEqProofs [vw,u1,u2,u3,u4,u5,u6,u7,u8,u9,bD,g1,g2,Hf,qB];all_goals (repeat' split)<;>first|rfl|omega|(simp_all;done)|(simp_all;omega)|skip
end M
set_option maxHeartbeats 4000000
namespace M
open Go
variable [Lb]
def tq(fs:List aM)(t now:Int):Bool:=decide (gU fs t now<(gY fs).w8) && !(gY fs).nc
def zw(a b:aV):Bool:=decide (a.status=b.status) && decide (a.body=b.body) && decide (a.fields=b.fields)
def A9(c:Ca)(a:Rp):Bool:=tq a.obj.resp.fields a.obj.t a.t && decide (a.obj.path=a.q.path) && qC a.obj.names a.obj.values a.q.fields && decide (a.q.method=1) && !(gY a.q.fields).nc && !(gY a.q.fields).ns && zw a.resp (answer a.q a.obj a.t) && decide (0<=uY c a)
def GO(c:Ca):Bool:=dQ c && bq (λa:Rp=> !(decide (a.kind=1) && !A9 c a)) c.sent
def XS(fs:List aM)(hb:wL aL fs<=1073741824):ev LI TT 133 [.row .af 2 (fs.map aW)]=some (.int .i64 ((gY fs).w8),[.dead]):=by
 rw[aE (b:=FR) (rs:=[.t 2]) (n:=1) rfl rfl];have u1:=uL fs hb;try simp at u1
 simp -implicitDefEqProofs [FR,u1];all_goals (repeat' split)<;>first|rfl|omega|(simp_all;done)|(simp_all;omega)|skip
def O1(fs:List aM)(t:Int)(now:Int)(hb:wL aL fs<=100000000)(h3:bI t)(h4:bI now):ev LI TT 81 [.row .af 2 (fs.map aW),.int .i64 t,.int .i64 now]=some (.bool (tq fs t now),[.dead,.dead,.dead]):=by
 rw[aE (b:=FN) (rs:=[.t 6]) (n:=3) rfl rfl];have hfl:=bg (w:=aL) fs;unfold tq;have u1:=OS fs t now (by omega) h3 h4;try simp at u1
 have u2:=XS fs (by omega);try simp at u2
 have u3:=uL fs (by omega);try simp at u3
 by_cases g:gU fs t now<(gY fs).w8;all_goals
 simp -implicitDefEqProofs [FN,u1,u2,u3,g];all_goals (repeat' split)<;>first|rfl|omega|(simp_all;done)|(simp_all;omega)|skip
def Pm(a:aV)(b:aV)(ha:a.fields.length<=1073741824)(hb:b.fields.length<=1073741824):ev LI TT 83 [.agg (cF .af a),.agg (cF .af b)]=some (.bool (zw a b),[.dead,.dead]):=by
 rw[aE (b:=GF) (rs:=[.t 4]) (n:=2) rfl rfl];unfold zw;have u1:=Pp a.fields b.fields (by omega);try simp at u1
 by_cases g1:a.status=b.status;all_goals by_cases g2:a.body=b.body
 all_goals
 simp -implicitDefEqProofs [GF,u1,g1,g2];all_goals (repeat' split)<;>first|rfl|omega|(simp_all;done)|(simp_all;omega)|skip
def WT(q:Rq)(o:Ob)(now:Int)(h:aU o<=100000000):(answer q o now).fields.length<=1073741824:=by
 have hw:aU o=o.path.length+wL wS o.names+wL wS o.values+aJ o.resp:=rfl;have dF:aJ o.resp=wL aL o.resp.fields+o.resp.body.length:=rfl;have l1:=bg (w:=aL) o.resp.fields;have l3:=vV (gU o.resp.fields o.t now);have l4:=MU o.resp;have l5:=bg (w:=aL) (o.resp.fields.filter iO);have l6:=Dh o.resp.fields gJ (dn (gU o.resp.fields o.t now));have l7:=Dh (o.resp.fields.filter iO) gJ (dn (gU o.resp.fields o.t now));have l8:gJ.length=3:=rfl;have m1:=bg (w:=aL) (iM o.resp.fields gJ (dn (gU o.resp.fields o.t now)));have m2:=bg (w:=aL) (iM (o.resp.fields.filter iO) gJ (dn (gU o.resp.fields o.t now)));unfold answer;by_cases g1:wk q o.resp.fields=true
 ·simp only[g1,↓reduceIte,qB];split;·simp only;omega
  ·simp only;omega
 ·simp only[g1];split;·rename_i h;exact absurd h (by simp)
  ·split;·simp only;omega
   ·omega
def XA(c:Ca)(a:Rp)(hc:aN c<=100000000)(ha:cL a<=100000000)(h3:bI a.obj.t)(h4:bI a.t):ev LI TT 45 [.ptr .af (aI .af c),.agg (dY .af a)]=some (.bool (A9 c a),[.dead,.dead]):=by
 rw[aE (b:=og) (rs:=[.t 4]) (n:=2) rfl rfl];have q3:cL a=bn a.q+aJ a.resp+aU a.obj:=rfl;have q4:aU a.obj=a.obj.path.length+wL wS a.obj.names+wL wS a.obj.values+aJ a.obj.resp:=rfl;have q5:aJ a.obj.resp=wL aL a.obj.resp.fields+a.obj.resp.body.length:=rfl;have q6:bn a.q=a.q.path.length+wL aL a.q.fields+a.q.body.length:=rfl;have q7:aJ a.resp=wL aL a.resp.fields+a.resp.body.length:=rfl;have l1:=bg (w:=aL) a.resp.fields;have l2:=bg (w:=aL) a.q.fields;have l3:=bg (w:=wS) a.obj.names;have l4:=bg (w:=wS) a.obj.values;have l5:=WT a.q a.obj a.t (by omega);unfold A9;have u1:=uL a.q.fields (by omega);try simp at u1
 have u2:=O1 a.obj.resp.fields a.obj.t a.t (by omega) h3 h4;try simp at u2
 have u3:=Je a.obj.names a.obj.values a.q.fields (by omega) (by omega) (by omega);try simp at u3
 have u4:=I8 a.q a.obj a.t (by omega) (by omega) h3 h4;try simp at u4
 have u5:=Pm a.resp (answer a.q a.obj a.t) (by omega) l5;try simp at u5
 have u6:=Xx c a hc ha;try simp at u6
 generalize tq a.obj.resp.fields a.obj.t a.t=b1 at u2;generalize qC a.obj.names a.obj.values a.q.fields=b2 at u3;generalize answer a.q a.obj a.t=r at u4 u5;generalize zw a.resp r=b3 at u5;generalize gY a.q.fields=cc at u1;obtain⟨c1,c2,c3,c4,c5,c6⟩:=cc;simp only at u1;generalize uY c a=n at u6;cases b1;·simp -implicitDefEqProofs [og,oh,pV,pW,pX,u1,u2]
 by_cases g1:a.obj.path=a.q.path;rotate_left;·simp -implicitDefEqProofs [og,oh,pV,pW,pX,u1,u2,eq_false g1]
 cases b2;·simp -implicitDefEqProofs [og,oh,pV,pW,pX,u1,u2,u3,eq_true g1]
 by_cases g2:a.q.method=1;rotate_left;·simp -implicitDefEqProofs [og,oh,pV,pW,pX,u1,u2,u3,eq_true g1,g2]
 rw[g2] at u4;cases c2;rotate_left;·simp -implicitDefEqProofs [og,oh,pV,pW,pX,u1,u2,u3,eq_true g1,g2]
 cases c1;rotate_left;·simp -implicitDefEqProofs [og,oh,pV,pW,pX,u1,u2,u3,eq_true g1,g2]
 cases b3;·simp -implicitDefEqProofs [og,oh,pV,pW,pX,u1,u2,u3,u4,u5,eq_true g1,g2]
 simp -implicitDefEqProofs [og,u1,u2,u3,u4,u5,u6,eq_true g1,g2,oh,pV,pW,pX];all_goals (repeat' split)<;>first|rfl|omega|(simp_all;done)|(simp_all;omega)|skip
end M
set_option maxHeartbeats 4000000
namespace M
open Go
variable [Lb]
def CJ(c:Ca)(a:Rp):Bool:= !(decide (a.kind=1) && !A9 c a)
def ad0(c:Ca):GO c=(dQ c && bq (CJ c) c.sent):=rfl
def agV{c:Ca}{x:Rp}(hx:x∈c.sent):cL x<=aN c:=by have h1:=gB (w:=cL) hx;have h5:=Eo c;omega
def V0(c:Ca)(hc:aN c<=100000000)(k:Am c):bh (aA (ev LI TT) (aB TT) yj) [(1,.ptr .own (aI .af c)),(8,.aj 1 [] 0 9),(9,.row .af 18 (c.sent.map (dY .af))),(10,.int .i64 c.sent.length),(11,.int .i64 0)]=if bq (CJ c) (c.sent)=true then some (.exit 0,[(1,.ptr .own (aI .af c)),(8,.aj 1 [] 0 9),(9,.row .af 18 (c.sent.map (dY .af))),(10,.int .i64 c.sent.length),(11,.int .i64 (c.sent).length),(12,.bool false)]) else some (.ret,[(2,.bool false)]):=by
 refine iX (f:=aA (ev LI TT) (aB TT) yj) (c.sent) (λi=>[(1,.ptr .own (aI .af c)),(8,.aj 1 [] 0 9),(9,.row .af 18 (c.sent.map (dY .af))),(10,.int .i64 c.sent.length),(11,.int .i64 i)]) (CJ c) _ _ (λi b hi hl=>?_) ?_
 ·have hw:=bY i (by have:=bg (w:=cL) c.sent;have:=Eo c;omega);obtain⟨_,rfl⟩:=aQ.1 hi;have ho:=agV (cB hl);have kx:=k.ad8.2 _ (cB hl);have u1:=XA c c.sent[i] hc (by omega) kx.Si.CK kx.CK;try simp at u1
  unfold CJ;by_cases g1:(c.sent[i]).kind=1;rotate_left;·simp -implicitDefEqProofs [yj,FQ,hl,hw,g1]
  rw[g1] at u1;cases hh:A9 c c.sent[i]<;>rw[hh] at u1;all_goals
  simp -implicitDefEqProofs [yj,FQ,hl,hw,u1,hh,g1];all_goals (repeat' split)<;>first|rfl|omega|(simp_all;done)|(simp_all;omega)|skip
 ·simp -implicitDefEqProofs [yj,FQ]
def XR(c:Ca)(hc:aN c<=100000000)(k:Am c):ev LI TT 23 [.agg (aI .af c)]=some (.bool (GO c),[.dead]):=by
 rw[aE (b:=B3) (rs:=[.t 2]) (n:=1) rfl rfl];rw[ad0];have u1:=Ap c hc;try simp at u1
 have u2:=V0 c hc k;try simp at u2
 generalize dQ c=b1 at u1;cases b1;·simp -implicitDefEqProofs [B3,u1]
 cases h2:bq (CJ c) c.sent<;>rw[h2] at u2;all_goals try simp at u2
 all_goals
 simp -implicitDefEqProofs [B3,u1,u2];all_goals (repeat' split)<;>first|rfl|omega|(simp_all;done)|(simp_all;omega)|skip
end M
set_option maxHeartbeats 4000000
namespace M
open Go
variable [Lb]
def ic(d:bR)(keep:List Bool):bR:=⟨rR (kj keep false) d.cells d.pending,[]⟩
def Jw{d:bR}(keep:List Bool)(h:eR d=true):eR (ic d keep)=true:=by obtain⟨h0,h1,h1'⟩:=qq h;have:=Sn (kj keep false) d.cells d.pending;unfold eR ic;simp only[this,h1];rfl
def XL(d:bR)(h:eR d=true):ev LI TT 47 [.agg (gw .af d)]=some (.agg (gw .own (dZ d)),[.dead]):=by
 rw[aE (b:=FM) (rs:=[.c 2 2 true 33]) (n:=1) rfl rfl];obtain⟨h0,h1,h1'⟩:=qq h;have hw:d.cells.length<=1073741824:=by omega
 have u1:=Jb d (by omega);try simp at u1
 have u2:=Pj d (by omega) (by omega);try simp at u2
 have u3:=Eh d h;try simp at u3
 rw[h] at u1;simp -implicitDefEqProofs [FM,u1,u2,u3];all_goals (repeat' split)<;>first|rfl|omega|(simp_all;done)|(simp_all;omega)|skip
def OA(d:bR)(keep:List Bool)(hb:d.pending.length<=9223372036854775807)(ho:IJ d.pending)(hk:keep.length<=9223372036854775807)(cs:List ah)(hinv:cs.length=20):bh (aA (ev LI TT) (aB TT) ye) [(1,.row .af 1 (keep.map eB)),(2,.ptr .own (gw .af d)),(4,.ptr .own [.row .own 1 [],.row .own 2 []]),(5,.ptr .own [.row .own 1 ((cs).map eS),.row .own 2 []]),(16,.aj 2 [] 0 1),(17,.row .af 2 (d.pending.map eW)),(18,.int .i64 d.pending.length),(19,.int .i64 0)]=some (.exit 0,[(1,.row .af 1 (keep.map eB)),(2,.ptr .own (gw .af d)),(4,.ptr .own [.row .own 1 [],.row .own 2 []]),(5,.ptr .own [.row .own 1 (((foldI (kn (kj keep false)) 0 (d.pending) cs)).map eS),.row .own 2 []]),(16,.aj 2 [] 0 1),(17,.row .af 2 (d.pending.map eW)),(18,.int .i64 d.pending.length),(19,.int .i64 (d.pending).length),(20,.bool false)]):=by
 refine nu (f:=aA (ev LI TT) (aB TT) ye) (d.pending) (λi (cs:List ah)=>[(1,.row .af 1 (keep.map eB)),(2,.ptr .own (gw .af d)),(4,.ptr .own [.row .own 1 [],.row .own 2 []]),(5,.ptr .own [.row .own 1 ((cs).map eS),.row .own 2 []]),(16,.aj 2 [] 0 1),(17,.row .af 2 (d.pending.map eW)),(18,.int .i64 d.pending.length),(19,.int .i64 i)]) (kn (kj keep false)) (λcs=>[(1,.row .af 1 (keep.map eB)),(2,.ptr .own (gw .af d)),(4,.ptr .own [.row .own 1 [],.row .own 2 []]),(5,.ptr .own [.row .own 1 ((cs).map eS),.row .own 2 []]),(16,.aj 2 [] 0 1),(17,.row .af 2 (d.pending.map eW)),(18,.int .i64 d.pending.length),(19,.int .i64 (d.pending).length),(20,.bool false)]) (λi (cs:List ah)=>cs.length=20) cs hinv (λi b cs hi hl hinv=>?_) (λi b cs hi hinv=>?_) (λcs hinv=>?_)
 ·have hw:=bY i (by first|omega|(simp at hl;omega));obtain⟨_,rfl⟩:=aQ.1 hi;have h1:=ho _ (cB hl);have h2:(d.pending[i]).at_.toNat<cs.length:=by omega
  by_cases h4:i<keep.length;rotate_left;·simp -implicitDefEqProofs [ye,FF,hl,hw,h1,h2,kn,kj,h4]
  cases h5:keep[i];all_goals
  simp -implicitDefEqProofs [ye,FF,hl,hw,h1,h2,kn,kj,h4,h5]
 ·rw[L6];exact hinv
 ·simp -implicitDefEqProofs [ye,FF]
def OY(d:bR)(keep:List Bool)(h:eR d=true)(hk:keep.length<=9223372036854775807):ev LI TT 42 [.agg (gw .af d),.row .af 1 (keep.map eB)]=some (.agg (gw .own (ic d keep)),[.dead,.dead]):=by
 rw[aE (b:=FG) (rs:=[.c 4 2 true 33]) (n:=2) rfl rfl];obtain⟨h0,h1,h1'⟩:=qq h;have u2:=OA d keep (by omega) h0 hk d.cells h1;try simp at u2
 have u1:=Jb d (by omega);try simp at u1
 have u2:=GP d.cells (by omega);try simp at u2
 rw[h] at u1;have v2:=OA d keep (by omega) h0 hk d.cells h1;try simp at v2
 simp -implicitDefEqProofs [FG,u1,u2,v2,ic,rR];all_goals (repeat' split)<;>first|rfl|omega|(simp_all;done)|(simp_all;omega)|skip
def MP(a b:Ob):Bool:=jy a b && decide (a.t=b.t) && zw a.resp b.resp
def Ym(a:Ob)(b:Ob)(ha:aU a<=1073741824)(hb:aU b<=1073741824):ev LI TT 88 [.agg (cE .af a),.agg (cE .af b)]=some (.bool (MP a b),[.dead,.dead]):=by
 rw[aE (b:=CE) (rs:=[.t 4]) (n:=2) rfl rfl];have hw:aU a=a.path.length+wL wS a.names+wL wS a.values+aJ a.resp:=rfl;have dF:aU b=b.path.length+wL wS b.names+wL wS b.values+aJ b.resp:=rfl;have oa:aJ a.resp=wL aL a.resp.fields+a.resp.body.length:=rfl;have Fo:aJ b.resp=wL aL b.resp.fields+b.resp.body.length:=rfl;have l1:=bg (w:=aL) a.resp.fields;have l2:=bg (w:=aL) b.resp.fields;unfold MP;have u1:=Ji a b ha hb;try simp at u1
 have u2:=Pm a.resp b.resp (by omega) (by omega);try simp at u2
 generalize jy a b=b1 at u1;generalize zw a.resp b.resp=b2 at u2;cases b1;·simp -implicitDefEqProofs [CE,u1]
 by_cases g:a.t=b.t;all_goals
 simp -implicitDefEqProofs [CE,u1,u2,g];all_goals (repeat' split)<;>first|rfl|omega|(simp_all;done)|(simp_all;omega)|skip
def CN(k x:Kp):Bool:=decide (x.at_=k.at_) && decide (x.seq=k.seq) && MP x.obj k.obj
def X6(x k:Kp)(hx:aU x.obj<=1073741824)(hk:aU k.obj<=1073741824):ev LI TT 87 [.agg (au .af x),.ptr .af (au .af k)]=some (.bool (CN k x),[.dead,.dead]):=by
 rw[aE (b:=F1) (rs:=[.t 3]) (n:=2) rfl rfl];unfold CN;have u1:=Ym x.obj k.obj hx hk;try simp at u1
 by_cases g1:x.at_=k.at_;all_goals by_cases g2:x.seq=k.seq
 all_goals
 simp -implicitDefEqProofs [F1,u1,g1,g2];all_goals (repeat' split)<;>first|rfl|omega|(simp_all;done)|(simp_all;omega)|skip
def vM(l:List Kp)(k:Kp):Bool:= !bq (λx=> !CN k x) l
def V8(m s:Sh)(hm:cx m<=1073741824)(hs:cx s<=1073741824):bh (aA (ev LI TT) (aB TT) Cn) [(0,.ptr .af (bp .af m)),(1,.ptr .af (bp .af s)),(8,.ptr .af (bp .af s)),(9,.ptr .af (bp .af s)),(10,.ptr .af ((bp .af s).drop 2)),(11,.row .af 9 (s.aC.map (au .af))),(12,.int .i64 s.aC.length),(13,.int .i64 0)]=if bq (vM m.aC) (s.aC)=true then some (.exit 0,[(0,.ptr .af (bp .af m)),(1,.ptr .af (bp .af s)),(8,.ptr .af (bp .af s)),(9,.ptr .af (bp .af s)),(10,.ptr .af ((bp .af s).drop 2)),(11,.row .af 9 (s.aC.map (au .af))),(12,.int .i64 s.aC.length),(13,.int .i64 (s.aC).length),(14,.bool false)]) else some (.ret,[(4,.bool false)]):=by
 refine iX (f:=aA (ev LI TT) (aB TT) Cn) (s.aC) (λi=>[(0,.ptr .af (bp .af m)),(1,.ptr .af (bp .af s)),(8,.ptr .af (bp .af s)),(9,.ptr .af (bp .af s)),(10,.ptr .af ((bp .af s).drop 2)),(11,.row .af 9 (s.aC.map (au .af))),(12,.int .i64 s.aC.length),(13,.int .i64 i)]) (vM m.aC) _ _ (λi b hi hl=>?_) ?_
 ·have hw:=bY i (by have iK:cx s=dm s.aP+wL cQ s.aC+wL bz s.aG:=rfl;have:=bg (w:=cQ) s.aC;omega);obtain⟨_,rfl⟩:=aQ.1 hi;have iK:cx s=dm s.aP+wL cQ s.aC+wL bz s.aG:=rfl;have hwm:cx m=dm m.aP+wL cQ m.aC+wL bz m.aG:=rfl;have hlm:=bg (w:=cQ) m.aC;have hk:=sy (cB hl);have u1:=Jm m.aC s.aC[i] 87 (CN s.aC[i]) rfl (λx hx=>X6 x s.aC[i] (by have:=sy hx;omega) (by omega)) (by omega);unfold vM;generalize bq (λx=> !CN s.aC[i] x) m.aC=q at u1;try simp at u1
  cases q;all_goals
  simp -implicitDefEqProofs [Cn,Ln,hl,hw,u1,gN,fy,e9];all_goals (repeat' split)<;>first|rfl|omega|(simp_all;done)|(simp_all;omega)|skip
 ·simp -implicitDefEqProofs [Cn,Ln]
def X5(m s:Sh)(hm:cx m<=1073741824)(hs:cx s<=1073741824):ev LI TT 48 [.ptr .af (bp .af m),.ptr .af (bp .af s)]=some (.bool (bq (vM m.aC) s.aC),[.dead,.dead]):=by
 rw[aE (b:=F2) (rs:=[.t 4]) (n:=2) rfl rfl];have u1:=V8 m s hm hs;try simp at u1
 cases g:bq (vM m.aC) s.aC<;>rw[g] at u1<;>simp at u1;all_goals
 simp -implicitDefEqProofs [F2,u1];all_goals (repeat' split)<;>first|rfl|omega|(simp_all;done)|(simp_all;omega)|skip
noncomputable def GN(c:Ca):Bool:=dQ c && bq (vM (iw (dZ c.ai.aP)).aC) c.ai.aC && decide ((iw (dZ c.ai.aP)).aG=c.ai.aG) && decide ((iw (ic c.ai.aP [])).aG=c.ai.aG)
def Xl(x y:Bn):(x=y)↔x.kind=y.kind/\x.a=y.a/\x.b=y.b/\x.t=y.t:=by cases x;cases y;simp
def Wq(ps:List (Bn×Bn))(hb:ps.length<=9223372036854775807):bh (aA (ev LI TT) (aB TT) Dz) [(0,.row .af 4 (ps.map λx=>cY x.1)),(1,.row .af 4 (ps.map λx=>cY x.2)),(12,.int .i64 ps.length),(13,.int .i64 0)]=if bq kN (ps)=true then some (.exit 0,[(0,.row .af 4 (ps.map λx=>cY x.1)),(1,.row .af 4 (ps.map λx=>cY x.2)),(12,.int .i64 ps.length),(13,.int .i64 ps.length),(14,.bool false)]) else some (.ret,[(4,.bool false)]):=by
 refine iX (f:=aA (ev LI TT) (aB TT) Dz) (ps) (λi=>[(0,.row .af 4 (ps.map λx=>cY x.1)),(1,.row .af 4 (ps.map λx=>cY x.2)),(12,.int .i64 ps.length),(13,.int .i64 i)]) kN _ _ (λi b hi hl=>?_) ?_;·have hw:=bY i (by first|omega|(simp at hl;omega));obtain⟨_,rfl⟩:=aQ.1 hi;simp -implicitDefEqProofs [Dz,Nq,hl,hw,kN,Xl];first|done|(split<;>simp_all;done)|(split<;>simp_all<;>(intro h1 h2 h3;simp_all))
 ·simp -implicitDefEqProofs [Dz,Nq]
def Po(a b:List Bn)(hb:a.length<=9223372036854775807):ev LI TT 49 [.row .af 4 (a.map cY),.row .af 4 (b.map cY)]=some (.bool (decide (a=b)),[.dead,.dead]):=by
 rw[aE (b:=HX) (rs:=[.t 4]) (n:=2) rfl rfl];simp -implicitDefEqProofs [HX];by_cases h:a.length=b.length;·obtain⟨ps,rfl,rfl⟩:=Iw h;have h1:=Wq ps (by simpa using hb);have h2:=Ea ps;simp at h1;rw[<-h2];cases h3:bq kN ps<;>rw[h3] at h1<;>simp[h1,zS]
 ·have:¬a=b:=λe=>h (by rw[e]);simp[this];omega
def YI{c:Ca}(h:dQ c=true):eT c.ai=true:=by unfold dQ at h;simp only[av] at h;exact h.1.1.1.1
def Jy(d:bR)(keep:List Bool):dm (ic d keep)<=dm d:=by have h:=JW (kj keep false) d.pending 0 d.cells;show wL wS (rR (kj keep false) d.cells d.pending)+wL fC []<=wL wS d.cells+wL fC d.pending;have e:wL fC []=0:=rfl;unfold rR;omega
def XQ(c:Ca)(hc:aN c<=16000000):ev LI TT 25 [.agg (aI .af c)]=some (.bool (GN c),[.dead]):=by
 rw[aE (b:=yh) (rs:=[.t 2]) (n:=1) rfl rfl];have hwc:aN c=cx c.ai+wL cm c.aF+wL fB c.seen+wL cL c.sent:=rfl;have iK:cx c.ai=dm c.ai.aP+wL cQ c.ai.aC+wL bz c.ai.aG:=rfl;have hlb:=bg (w:=bz) c.ai.aG;unfold GN;have u1:=Ap c (by omega);try simp at u1
 by_cases g:dQ c=true;rotate_left;·rw[show dQ c=false by simpa using g] at u1⊢;simp -implicitDefEqProofs [yh,u1]
 rw[g] at u1⊢;have hd:=(si (YI g)).d;have hf:=EU c.ai.aP;have jP:=Jy c.ai.aP [];have v1:=XL c.ai.aP hd;have v2:=Jk (dZ c.ai.aP) (ET hd) (by omega);have v3:=OY c.ai.aP [] hd (by simp);have v4:=Jk (ic c.ai.aP []) (Jw [] hd) (by omega);have m1:=Mm (dZ c.ai.aP);have m2:=Mm (ic c.ai.aP []);have b1:=(yR (dZ c.ai.aP)).2.1;have b2:=(yR (ic c.ai.aP [])).2.1;have v5:=X5 (iw (dZ c.ai.aP)) c.ai (by omega) (by omega);have v6:=Po (iw (dZ c.ai.aP)).aG c.ai.aG (by show (fW (dZ c.ai.aP)).1.length<=_;omega);have v7:=Po (iw (ic c.ai.aP [])).aG c.ai.aG (by show (fW (ic c.ai.aP [])).1.length<=_;omega);clear b1 b2 m1 m2;generalize bq (vM (iw (dZ c.ai.aP)).aC) c.ai.aC=q1 at v5⊢;generalize decide ((iw (dZ c.ai.aP)).aG=c.ai.aG)=q2 at v6⊢;generalize decide ((iw (ic c.ai.aP [])).aG=c.ai.aG)=q3 at v7⊢;generalize iw (dZ c.ai.aP)=m1 at v2 v5 v6;generalize iw (ic c.ai.aP [])=m2 at v4 v7;generalize dZ c.ai.aP=d1 at v1 v2;generalize ic c.ai.aP []=d2 at v3 v4;simp at v1 v2 v3 v4 v5 v6 v7;cases q1;·simp -implicitDefEqProofs [yh,u1,v1,v2,v3,v4,v5]
 cases q2;all_goals
 simp -implicitDefEqProofs [yh,u1,v1,v2,v3,v4,v5,v6,v7];all_goals (repeat' split)<;>first|rfl|omega|(simp_all;done)|(simp_all;omega)|skip
noncomputable def LM(c:Ca):Bool:=GO c && GM c && GN c
def XO(c:Ca)(hc:aN c<=16000000)(k:Am c):ev LI TT 14 [.agg (aI .af c)]=some (.bool (LM c),[.dead]):=by
 rw[aE (b:=B1) (rs:=[.t 2]) (n:=1) rfl rfl];unfold LM;have u1:=XR c (by omega) k;try simp at u1
 have u2:=XP c (by omega);try simp at u2
 have u3:=XQ c hc;try simp at u3
 generalize GO c=b1 at u1;generalize GM c=b2 at u2;generalize GN c=b3 at u3;cases b1;·simp -implicitDefEqProofs [B1,u1]
 cases b2;all_goals
 simp -implicitDefEqProofs [B1,u1,u2,u3];all_goals (repeat' split)<;>first|rfl|omega|(simp_all;done)|(simp_all;omega)|skip
end M
set_option maxHeartbeats 4000000
namespace M
open Go
variable [Lb]
class Fd extends Lb where
 f:∀(s:Sh) (q:Rq),cx s<=1073741824->bn q<=1073741824->L 62 [.ptr .af (bp .af s),.agg (dN .af q)]=some (xG qC fT s q,[.dead,.dead])
def QF{s:Sh}{q:Rq}{o:Ob}(h:fS s q=some o):eT s=true/\∃k∈s.aC,k.obj=o/\QH s q k=true:=by
 unfold fS at h;split at h;·rename_i hok;unfold AM at h;obtain⟨k,hk,rfl⟩:=lD.1 h;exact⟨hok,k,by have:=Vf hk;simpa using this,rfl,List.find?_some hk⟩
 ·cases h
def QG{s:Sh}{q:Rq}:bI ((fS s q).getD eM).t/\aU ((fS s q).getD eM)<=cx s:=by
 cases h:fS s q with
 |none=>exact⟨by unfold bI;simp[eM],by simp[eM,aU,aJ,wL]⟩
 |some o=>
  obtain⟨h1,k,h2,rfl,_⟩:=QF h;have h3:=ahj h1 h2;have h4:=sy h2;unfold dy at h3;simp only[av,bx] at h3;have h5:cx s=dm s.aP+wL cQ s.aC+wL bz s.aG:=rfl;refine⟨?_,?_⟩;·unfold bI;simp only[wQ];have:=h3.1.1.1.1.2;omega
  ·simp only[wQ];omega
end M
set_option maxHeartbeats 4000000
namespace M
open Go
variable [Fd]
def X3(s:Sh)(q:Rq)(hs:cx s<=1073741824)(hq:bn q<=1073741824):ev LI TT 62 [.ptr .af (bp .af s),.agg (dN .af q)]=some (.ak [.agg (cE .own ((AM s q).getD eM)),.bool (AM s q).isSome],[.dead,.dead]):=by rw[jJ rfl];exact Fd.f s q hs hq
end M
set_option maxHeartbeats 4000000
namespace M
open Go
variable [Fd]
def AD(q:Rq)(o:Ob)(found:Bool)(now:Int):Int:=if lF q=true then (if found=true then (if (tq o.resp.fields o.t now && !(gY q.fields).nc)=true then 2 else 3) else 4) else 1
def ig(s:Sh)(q:Rq)(now:Int):Int:=AD q ((fS s q).getD eM) (fS s q).isSome now
def eE(s:Sh)(q:Rq)(now:Int):Ob:=if lF q=true then (fS s q).getD eM else eM
def Yg(q:Rq)(o:Ob)(f:Bool)(now:Int)(hq:bn q<=100000000)(ho:aU o<=100000000)(h3:bI o.t)(h4:bI now):ev LI TT 63 [.agg (dN .af q),.agg (cE .af o),.bool f,.int .i64 now]=some (.int .i64 (AD q o f now),[.dead,.dead,.dead,.dead]):=by
 rw[aE (b:=vH) (rs:=[.t 8]) (n:=4) rfl rfl];have hw:aU o=o.path.length+wL wS o.names+wL wS o.values+aJ o.resp:=rfl;have dF:aJ o.resp=wL aL o.resp.fields+o.resp.body.length:=rfl;have Fq:bn q=q.path.length+wL aL q.fields+q.body.length:=rfl;unfold AD;have u1:=Jj q (by omega);try simp at u1
 have u2:=O1 o.resp.fields o.t now (by omega) h3 h4;try simp at u2
 have u3:=uL q.fields (by omega);try simp at u3
 generalize lF q=b1 at u1;generalize tq o.resp.fields o.t now=b2 at u2;generalize gY q.fields=cc at u3;obtain⟨c1,c2,c3,c4,c5,c6⟩:=cc;try simp only at u3
 cases b1;·simp -implicitDefEqProofs [vH,u1]
 cases f;·simp -implicitDefEqProofs [vH,u1]
 cases b2;·simp -implicitDefEqProofs [vH,u1,u2,u3]
 cases c2;all_goals
 simp -implicitDefEqProofs [vH,u1,u2,u3];all_goals (repeat' split)<;>first|rfl|omega|(simp_all;done)|(simp_all;omega)|skip
end M
set_option maxHeartbeats 4000000
namespace M
open Go
variable [Lb]
def Wg(ks:List Kp)(hb:wL cQ ks<=1073741824):bh (aA (ev LI TT) (aB TT) CB) [(0,.row .af 9 (ks.map (au .af))),(3,.row .own 9 (([]).map (au .own))),(6,.row .af 9 (ks.map (au .af))),(7,.int .i64 ks.length),(8,.int .i64 0)]=some (.exit 0,[(0,.row .af 9 (ks.map (au .af))),(3,.row .own 9 ((((ks).flatMap (λk=>[k]))).map (au .own))),(6,.row .af 9 (ks.map (au .af))),(7,.int .i64 ks.length),(8,.int .i64 (ks).length),(9,.bool false)]):=by
 refine tZ (f:=aA (ev LI TT) (aB TT) CB) (ks) (λk=>[k]) (λi out=>[(0,.row .af 9 (ks.map (au .af))),(3,.row .own 9 ((out).map (au .own))),(6,.row .af 9 (ks.map (au .af))),(7,.int .i64 ks.length),(8,.int .i64 i)]) (λout=>[(0,.row .af 9 (ks.map (au .af))),(3,.row .own 9 ((out).map (au .own))),(6,.row .af 9 (ks.map (au .af))),(7,.int .i64 ks.length),(8,.int .i64 (ks).length),(9,.bool false)]) (λi b out hi hl hout=>?_) (λout hout=>?_)
 ·have hw:=bY i (by have:=bg (w:=cQ) ks;omega);obtain⟨_,rfl⟩:=aQ.1 hi;have hlk:=bg (w:=cQ) ks;have hm:=sy (cB hl);have hlo:out.length=i:=by rw[hout];exact xI (λk=>k) _ _ (by omega)
  have hlz:(i+1)*136<=140737488355328:=by omega
  have u1:=Ar (ks[i]).obj (by omega);try simp at u1
  simp -implicitDefEqProofs [CB,Lz,hl,hw,u1,hlo,hlz,cZ]
 ·simp -implicitDefEqProofs [CB,Lz]
def Yd(ks:List Kp)(hb:wL cQ ks<=1073741824):ev LI TT 58 [.row .af 9 (ks.map (au .af))]=some (.row .own 9 (ks.map (au .own)),[.dead]):=by
 rw[aE (b:=Gk) (rs:=[.t 2]) (n:=1) rfl rfl];have u1:=Wg ks hb;try simp at u1
 simp -implicitDefEqProofs [Gk,u1];all_goals (repeat' split)<;>first|rfl|omega|(simp_all;done)|(simp_all;omega)|skip
def Yf(s:Sh)(hb:cx s<=1073741824):ev LI TT 30 [.agg (bp .af s)]=some (.agg (bp .own s),[.dead]):=by
 rw[aE (b:=Gq) (rs:=[.c 2 6 true 37]) (n:=1) rfl rfl];have iK:cx s=dm s.aP+wL cQ s.aC+wL bz s.aG:=rfl;have adN:dm s.aP=wL wS s.aP.cells+wL fC s.aP.pending:=rfl;have l1:=bg (w:=wS) s.aP.cells;have l2:=bg (w:=fC) s.aP.pending;have l3:=bg (w:=bz) s.aG;have u1:=Pj s.aP (by omega) (by omega);try simp at u1
 have u2:=Yd s.aC (by omega);try simp at u2
 have u3:=aea s.aG (by omega);try simp at u3
 simp -implicitDefEqProofs [Gq,u1,u2,u3];all_goals (repeat' split)<;>first|rfl|omega|(simp_all;done)|(simp_all;omega)|skip
end M
set_option maxHeartbeats 4000000
namespace M
open Go
variable [Lb]
structure Pl (A:List X):Prop where
 o:∀ks,X.qu ks A=A
 k:∀r p,X.gI r p A=A
 m:X.dU .af A=A
 b:X.bare.jj A=true
def mq(z:X)(s:Sh):List X:=[.row .af 1 (s.aP.cells.map eS),.row .af 2 (s.aP.pending.map eW),z,.row .af 4 (s.aG.map cY),.int .i64 s.next,.int .i64 s.seq]
def X4(k:Kp)(z:X)(s:Sh)(o:Ob)(hk:aU k.obj<=1073741824)(ho:aU o<=1073741824):ev LI TT 111 [.agg (au .af k),.ptr .af [.ptr .af (mq z s)],.ptr .af (cE .af o)]=some (.bool (decide (k.at_=s.next)||jy k.obj o),[.dead,.dead,.dead]):=by
 rw[aE (b:=FZ) (rs:=[.t 4]) (n:=3) rfl rfl];have u1:=Ji k.obj o hk ho;try simp at u1
 by_cases g:k.at_=s.next
 all_goals
 simp -implicitDefEqProofs [FZ,u1,g,mq];all_goals (repeat' split)<;>first|rfl|omega|(simp_all;done)|(simp_all;omega)|skip
def X2(k:Kp)(z:X)(s:Sh)(hk:aU k.obj<=1073741824)(hs:wL bz s.aG<=1073741824):ev LI TT 116 [.agg (au .af k),.ptr .af [.ptr .af (mq z s)]]=some (.bool (fT s.aG k.obj),[.dead,.dead]):=by
 rw[aE (b:=FY) (rs:=[.t 3]) (n:=2) rfl rfl];have u1:=xk s.aG k.obj hs hk;try simp at u1
 simp -implicitDefEqProofs [FY,u1,mq];all_goals (repeat' split)<;>first|rfl|omega|(simp_all;done)|(simp_all;omega)|skip
def VL(l:List Kp)(A:List X)(hA:Pl A)(gf:Nat)(p:Kp->Bool)(ho:aB TT gf=true)(hf:∀x∈l,ev LI TT gf [.agg (au .af x),.ptr .af A]=some (.bool (p x),[.dead,.dead]))(hb:l.length<=9223372036854775807):bh (aA (ev LI TT) (aB TT) mC) [(0,.row .af 9 (l.map (au .af))),(1,.fn gf [.ptr .af A]),(7,.int .i64 l.length),(8,.int .i64 0)]=(cS p 0 (l)).elim (some (.exit 0,[(0,.row .af 9 (l.map (au .af))),(1,.fn gf [.ptr .af A]),(7,.int .i64 l.length),(8,.int .i64 (l).length),(9,.bool false)])) λx=>some (.ret,(λ(i:Nat) b=>[(4,.int .i64 i)]) x.1 x.2):=by
 refine vN (f:=aA (ev LI TT) (aB TT) mC) (l) (λi=>[(0,.row .af 9 (l.map (au .af))),(1,.fn gf [.ptr .af A]),(7,.int .i64 l.length),(8,.int .i64 i)]) p (λ(i:Nat) b=>[(4,.int .i64 i)]) _ (λi b hi hl=>?_) ?_
 ·have hw:=bY i (by first|omega|(simp at hl;omega));obtain⟨_,rfl⟩:=aQ.1 hi;have u1:=hf l[i] (cB hl);try simp at u1
  simp -implicitDefEqProofs [mC,wG,hl,hw,u1,ho,lW,hA.o,hA.k,hA.m,hA.b];all_goals (repeat' split)<;>first|rfl|omega|(simp_all;done)|(simp_all;omega)|skip
 ·simp -implicitDefEqProofs [mC,wG,hA.o,hA.k,hA.m,hA.b]
def VM(l:List Kp)(A B:List X)(hA:Pl A)(hB:Pl B)(gf:Nat)(p:Kp->Bool)(ho:aB TT gf=true)(hf:∀x∈l,ev LI TT gf [.agg (au .af x),.ptr .af A,.ptr .af B]=some (.bool (p x),[.dead,.dead,.dead]))(hb:l.length<=9223372036854775807):bh (aA (ev LI TT) (aB TT) mC) [(0,.row .af 9 (l.map (au .af))),(1,.fn gf [.ptr .af A,.ptr .af B]),(7,.int .i64 l.length),(8,.int .i64 0)]=(cS p 0 (l)).elim (some (.exit 0,[(0,.row .af 9 (l.map (au .af))),(1,.fn gf [.ptr .af A,.ptr .af B]),(7,.int .i64 l.length),(8,.int .i64 (l).length),(9,.bool false)])) λx=>some (.ret,(λ(i:Nat) b=>[(4,.int .i64 i)]) x.1 x.2):=by
 refine vN (f:=aA (ev LI TT) (aB TT) mC) (l) (λi=>[(0,.row .af 9 (l.map (au .af))),(1,.fn gf [.ptr .af A,.ptr .af B]),(7,.int .i64 l.length),(8,.int .i64 i)]) p (λ(i:Nat) b=>[(4,.int .i64 i)]) _ (λi b hi hl=>?_) ?_
 ·have hw:=bY i (by first|omega|(simp at hl;omega));obtain⟨_,rfl⟩:=aQ.1 hi;have u1:=hf l[i] (cB hl);try simp at u1
  simp -implicitDefEqProofs [mC,wG,hl,hw,u1,ho,lW,hA.o,hA.k,hA.m,hA.b,hB.o,hB.k,hB.m,hB.b];all_goals (repeat' split)<;>first|rfl|omega|(simp_all;done)|(simp_all;omega)|skip
 ·simp -implicitDefEqProofs [mC,wG,hA.o,hA.k,hA.m,hA.b,hB.o,hB.k,hB.m,hB.b]
def Xo(l:List Kp)(A:List X)(hA:Pl A)(gf:Nat)(p:Kp->Bool)(ho:aB TT gf=true)(hf:∀x∈l,ev LI TT gf [.agg (au .af x),.ptr .af A]=some (.bool (p x),[.dead,.dead]))(hb:l.length<=9223372036854775807):ev LI TT 125 [.row .af 9 (l.map (au .af)),.fn gf [.ptr .af A]]=some (.int .i64 ((cS p 0 l).elim (-1) λx=>(x.1:Int)),[.dead,.dead]):=by
 rw[aE (b:=oV) (rs:=[.t 4]) (n:=2) rfl rfl];have u1:=VL l A hA gf p ho hf hb;try simp at u1
 cases g:cS p 0 l with
 |none=>rw[g] at u1;simp at u1;simp -implicitDefEqProofs [oV,u1,hA.o,hA.k,hA.m,hA.b]
 |some x=>
 rw[g] at u1;simp at u1;simp -implicitDefEqProofs [oV,u1,hA.o,hA.k,hA.m,hA.b];all_goals (repeat' split)<;>first|rfl|omega|(simp_all;done)|(simp_all;omega)|skip
def Xp(l:List Kp)(A B:List X)(hA:Pl A)(hB:Pl B)(gf:Nat)(p:Kp->Bool)(ho:aB TT gf=true)(hf:∀x∈l,ev LI TT gf [.agg (au .af x),.ptr .af A,.ptr .af B]=some (.bool (p x),[.dead,.dead,.dead]))(hb:l.length<=9223372036854775807):ev LI TT 125 [.row .af 9 (l.map (au .af)),.fn gf [.ptr .af A,.ptr .af B]]=some (.int .i64 ((cS p 0 l).elim (-1) λx=>(x.1:Int)),[.dead,.dead]):=by
 rw[aE (b:=oV) (rs:=[.t 4]) (n:=2) rfl rfl];have u1:=VM l A B hA hB gf p ho hf hb;try simp at u1
 cases g:cS p 0 l with
 |none=>rw[g] at u1;simp at u1;simp -implicitDefEqProofs [oV,u1,hA.o,hA.k,hA.m,hA.b,hB.o,hB.k,hB.m,hB.b]
 |some x=>
 rw[g] at u1;simp at u1;simp -implicitDefEqProofs [oV,u1,hA.o,hA.k,hA.m,hA.b,hB.o,hB.k,hB.m,hB.b];all_goals (repeat' split)<;>first|rfl|omega|(simp_all;done)|(simp_all;omega)|skip
end M
set_option maxHeartbeats 400000
namespace M
open Go
variable [Lb]
def VG(A:List X)(hA:Pl A)(B:List X)(hB:Pl B)(gf:Nat)(p:Kp->Bool)(ho:aB TT gf=true)(T:List (List X))(v:Kp)(n f:Nat)(vf:n<T.length)(hv:T[n]=au .own v)(hfn:f<n)(u:Kp)(hF:T[f]=au .own u\/T[f]=dA u)(hb:T.length<=1073741824)(hf:ev LI TT gf [.agg (au .af v),.ptr .af A,.ptr .af B]=some (.bool (p v),[.dead,.dead,.dead])):aA (ev LI TT) (aB TT) kz [(0,.ref 100000 []),(1,.fn gf [.ptr .af A,.ptr .af B]),(5,.int .i64 (f:Nat)),(6,.int .i64 ((n:Nat):Int)),(100000,.row .own 9 T)]=some (.normal,[(0,.ref 100000 []),(1,.fn gf [.ptr .af A,.ptr .af B]),(5,.int .i64 ((if p v=true then f else f+1:Nat):Int)),(6,.int .i64 ((n+1:Nat):Int)),(100000,.row .own 9 (if p v=true then T.set n (dA v) else (T.set n (dA v)).set f (au .own v)))]):=by
 have hw:=bY n (by omega);have dF:=bY f (by omega);have hm:=rV T n _ (aQ.2 ⟨vf,hv⟩);try simp at hf hv hm
 have Bc:f<T.length:=by omega
 cases hp:p v
 ·rw[hp] at hf;have hne:¬n=f:=by omega
  have vn:¬f=n:=by omega
  have hm2:∀u',T[f]=u'->∀w g,(T.set n w).modify f g=(T.set n w).set f (g u'):=λu' h w g=>rV _ f _ (by simp[sL,hne,Bc,h]) g;rcases hF with hF|hF;all_goals simp[dA] at hF
  all_goals have Ky:=hm2 _ hF
  all_goals clear hm2
  all_goals simp -implicitDefEqProofs [kz,wF,hw,dF,vf,hv,hf,hF,Bc,hne,vn,hm,Ky,iz,ho,lW,hA.o,hA.k,hA.m,hA.b,hB.o,hB.k,hB.m,hB.b,hp,dA]
 ·simp -implicitDefEqProofs [kz,wF,hw,dF,vf,hv,hf,hm,iz,ho,lW,hA.o,hA.k,hA.m,hA.b,hB.o,hB.k,hB.m,hB.b,hp,dA]
def kL{α β:Type}(p:α->Bool)(d:α->β)(g:List α×List β)(v:α):List α×List β:=if p v=true then (g.1,g.2++[d v]) else (g.1++[v],g.2.tail++[d v])
def JB{α β:Type}(p:α->Bool)(d:α->β):∀(l:List α) (i:Nat) (g:List α×List β),(foldI (λ_ g v=>kL p d g v) i l g).1=g.1++l.filter (λv=> !p v)
 |[],i,g=>by simp[foldI]
 |v::l,i,g=>by rw[foldI,JB p d l];unfold kL;cases h:p v<;>simp[h]
structure DX {α β:Type} (e d:α->β) (n:Nat) (g:List α×List β):Prop where
 n:g.1.length+g.2.length=n
 m:1<=g.2.length
 r:∀x∈g.2,∃u,x=e u\/x=d u
def DX.go{α β:Type}{e d:α->β}{n:Nat}{g:List α×List β}(h:DX e d n g)(p:α->Bool)(v:α):DX e d (n+1) (kL p d g v):=by
 obtain⟨F,M⟩:=g;have hn:=h.n;have hm:=h.m;have hr:=h.r;simp at hn hm hr;unfold kL;split
 ·refine⟨by simp;omega,by simp,λx hx=>?_⟩;rcases fE.1 hx with hx|hx;·exact hr x hx
  ·exact⟨v,.inr (by simpa using hx)⟩
 ·refine⟨by simp;omega,by simp,λx hx=>?_⟩;rcases fE.1 hx with hx|hx;·exact hr x (Vi hx)
  ·exact⟨v,.inr (by simpa using hx)⟩
def DX.row{α β:Type}{e d:α->β}{n:Nat}{g:List α×List β}(h:DX e d n g)(p:α->Bool)(v:α)(R T:List β)(hT:T=g.1.map e++g.2++e v::R):T.length=n+1+R.length/\T[n]?=some (e v)/\g.1.length<n/\(∃u,T[g.1.length]?=some (e u)\/T[g.1.length]?=some (d u))/\(if p v=true then T.set n (d v) else (T.set n (d v)).set g.1.length (e v))=(kL p d g v).1.map e++(kL p d g v).2++R/\(if p v=true then g.1.length else g.1.length+1)=(kL p d g v).1.length:=by
 obtain⟨F,M⟩:=g;have hn:=h.n;have hm:=h.m;have hr:=h.r;simp at hn hm hr hT⊢;subst hT;obtain⟨a,M',rfl⟩:∃a M',M=a::M':=by cases M with|nil=>simp at hm|cons a M=>exact⟨_,_,rfl⟩
 have e1:n=(F.map e).length+(a::M').length:=by simp;simp at hn;omega
 have e2:F.length=(F.map e).length:=by simp
 obtain⟨u,hu⟩:=hr a (by simp);refine⟨by simp at hn⊢;omega,?_,by simp at hn;omega,⟨u,?_⟩,?_,?_⟩;·rw[e1,<-gT,<-sJ];simp
 ·rw[e2];rcases hu with rfl|rfl<;>simp
 ·have s1:∀w,(F.map e++(a::M'++e v::R)).set n w=F.map e++(a::M'++w::R):=by intro w;rw[e1];simp[List.set_append,sG,Nat.add_sub_cancel]
  rw[s1];unfold kL;cases hp:p v;·simp only[hp,iP,iD];rw[e2,NO _ _ (dc _)];simp
  ·simp
 ·unfold kL;cases hp:p v<;>simp
def DX.fold{α β:Type}{e d:α->β}(p:α->Bool):∀(l:List α) (i:Nat) {n:Nat} {g:List α×List β},DX e d n g->DX e d (n+l.length) (foldI (λ_ g v=>kL p d g v) i l g)
 |[],i,n,g,h=>h
 |v::l,i,n,g,h=>by have:=DX.fold p l (i+1) (h.go p v);rw[foldI,di,show n+(l.length+1)=n+1+l.length by omega];exact this
def VC(A:List X)(hA:Pl A)(B:List X)(hB:Pl B)(gf:Nat)(T:List (List X))(n f:Nat)(hn:T.length=n):aA (ev LI TT) (aB TT) kz [(0,.ref 100000 []),(1,.fn gf [.ptr .af A,.ptr .af B]),(5,.int .i64 (f:Nat)),(6,.int .i64 ((n:Nat):Int)),(100000,.row .own 9 T)]=some (.exit 0,[(0,.ref 100000 []),(1,.fn gf [.ptr .af A,.ptr .af B]),(5,.int .i64 (f:Nat)),(6,.int .i64 ((n:Nat):Int)),(19,.bool false),(100000,.row .own 9 T)]):=by subst hn;simp -implicitDefEqProofs [kz,wF,hA.o,hA.k,hA.m,hA.b,hB.o,hB.k,hB.m,hB.b]
def VE(A:List X)(hA:Pl A)(B:List X)(hB:Pl B)(gf:Nat)(p:Kp->Bool)(ho:aB TT gf=true)(l:List Kp)(hf:∀x∈l,ev LI TT gf [.agg (au .af x),.ptr .af A,.ptr .af B]=some (.bool (p x),[.dead,.dead,.dead]))(hb:l.length<=1073741824)(i0:Nat)(hi0:i0<l.length)(g:List Kp×List (List X))(hg:DX (au .own) dA (i0+1) g):∃g':List Kp×List (List X),g'.1=g.1++(l.drop (i0+1)).filter (λv=> !p v)/\DX (au .own) dA l.length g'/\bh (aA (ev LI TT) (aB TT) kz) [(0,.ref 100000 []),(1,.fn gf [.ptr .af A,.ptr .af B]),(5,.int .i64 ((g.1.length:Nat):Int)),(6,.int .i64 ((i0+1:Nat):Int)),(100000,.row .own 9 (g.1.map (au .own)++g.2++(l.drop (i0+1)).map (au .own)))]=some (.exit 0,[(0,.ref 100000 []),(1,.fn gf [.ptr .af A,.ptr .af B]),(5,.int .i64 ((g'.1.length:Nat):Int)),(6,.int .i64 (l.length:Nat)),(19,.bool false),(100000,.row .own 9 (g'.1.map (au .own)++g'.2))]):=by
 have hd:(l.drop (i0+1)).length+(i0+1)=l.length:=by rw[wW];omega
 refine⟨foldI (λ_ g v=>kL p dA g v) 0 (l.drop (i0+1)) g,JB ..,?_,?_⟩;·have:=DX.fold p (l.drop (i0+1)) 0 hg;rwa [show i0+1+(l.drop (i0+1)).length=l.length by omega] at this
 ·refine nu (f:=aA (ev LI TT) (aB TT) kz) (l.drop (i0+1)) (λi (g:List Kp×List (List X))=>[(0,.ref 100000 []),(1,.fn gf [.ptr .af A,.ptr .af B]),(5,.int .i64 ((g.1.length:Nat):Int)),(6,.int .i64 ((i0+1+i:Nat):Int)),(100000,.row .own 9 (g.1.map (au .own)++g.2++(l.drop (i0+1+i)).map (au .own)))]) (λ_ g v=>kL p dA g v) (λg=>[(0,.ref 100000 []),(1,.fn gf [.ptr .af A,.ptr .af B]),(5,.int .i64 ((g.1.length:Nat):Int)),(6,.int .i64 (l.length:Nat)),(19,.bool false),(100000,.row .own 9 (g.1.map (au .own)++g.2))]) (λi g=>DX (au .own) dA (i0+1+i) g) g hg (λi b g hi hl hinv=>?_) (λi b g hi hinv=>?_) (λg hinv=>?_)
  ·obtain⟨hl',rfl⟩:=aQ.1 hi;have jm:i0+1+i<l.length:=by rw[wW] at hl';omega
   have fH:(l.drop (i0+1))[i]=l[i0+1+i]:=by rw[Og]
   have e:l.drop (i0+1+i)=l[i0+1+i]::l.drop (i0+1+(i+1)):=by rw[o7 jm];rfl
   obtain⟨r1,r2,r3,⟨u,r4⟩,r5,r6⟩:=hinv.row p l[i0+1+i] ((l.drop (i0+1+(i+1))).map (au .own)) (g.1.map (au .own)++g.2++(l.drop (i0+1+i)).map (au .own)) (by rw[e,bC]);rw[fH];obtain⟨q1,q2⟩:=aQ.1 r2
   have hr4:∃h:g.1.length<(g.1.map (au .own)++g.2++(l.drop (i0+1+i)).map (au .own)).length,(g.1.map (au .own)++g.2++(l.drop (i0+1+i)).map (au .own))[g.1.length]=au .own u\/(g.1.map (au .own)++g.2++(l.drop (i0+1+i)).map (au .own))[g.1.length]=dA u:=by
    rcases r4 with r4|r4;·obtain⟨a,b⟩:=aQ.1 r4;exact⟨a,.inl b⟩
    ·obtain⟨a,b⟩:=aQ.1 r4;exact⟨a,.inr b⟩
   obtain⟨_,hr4⟩:=hr4;have hs:=VG A hA B hB gf p ho _ l[i0+1+i] (i0+1+i) g.1.length q1 q2 r3 u hr4 (by rw[r1,cX,wW];omega) (hf _ (cB jm));rw[hs,r5,r6,show i0+1+i+1=i0+1+(i+1) by omega]
  ·exact hinv.go p b
  ·rw[show i0+1+(l.drop (i0+1)).length=l.length by omega] at hinv⊢;rw[N3,jF,sK];exact VC A hA B hB gf _ _ _ (by rw[gT,cX];exact hinv.n)
def QA(hi:Nat)(z:List X)(F M:List (List X))(n:Nat)(hn:n=F.length):(tf n hi z (F++M)).take n=F:=by
 subst hn;unfold tf;apply iE;intro j;rw[Od];split;·rename_i h;rw[Oa,qK h,cr h];simp[Nat.not_le_of_lt h]
 ·rename_i h;rw[jD (by omega)]
def Qz(n hi:Nat)(z:List X)(T:List (List X)):(tf n hi z T).length=T.length:=by simp[tf]
def Xn(l:List Kp)(A B:List X)(hA:Pl A)(hB:Pl B)(gf:Nat)(p:Kp->Bool)(ho:aB TT gf=true)(hf:∀x∈l,ev LI TT gf [.agg (au .af x),.ptr .af A,.ptr .af B]=some (.bool (p x),[.dead,.dead,.dead]))(hb:l.length<=1073741824):ev LI TT 110 [.row .own 9 (l.map (au .own)),.fn gf [.ptr .af A,.ptr .af B]]=some (.row .own 9 ((l.filter (λv=> !p v)).map (au .own)),[.dead,.dead]):=by
 rw[aE (b:=ux) (rs:=[.t 4]) (n:=2) rfl rfl];have u1:=Xp l A B hA hB gf p ho hf (by omega);cases hg:cS p 0 l with
 |none=>
  rw[hg] at u1;simp at u1;have hl:l.filter (λv=> !p v)=l:=N6.2 λx hx=>by have:=EP.1 hg x hx;simpa using this
  rw[hl];simp -implicitDefEqProofs [ux,u1,hA.o,hA.k,hA.m,hA.b,hB.o,hB.k,hB.m,hB.b]
 |some x=>
  obtain⟨i,b⟩:=x;rw[hg] at u1;simp at u1;obtain⟨e,hpb,hq,hfl⟩:=QJ hg;obtain⟨_,hi1,_⟩:=q9 hg;obtain⟨hi,_⟩:=aQ.1 hi1;rw[wN] at hi;have hw:=bY i (by omega);obtain⟨g',r1,r2,u2⟩:=VE A hA B hB gf p ho l hf hb i hi (l.take i,[au .own b]) ⟨by simp;omega,by simp,λx hx=>⟨b,.inl (by simpa using hx)⟩⟩;rw[hfl];have hn:=r2.n
  have e2:(l.take i).map (au .own)++[au .own b]++(l.drop (i+1)).map (au .own)=l.map (au .own):=by
   conv=>rhs;rw[e]
   simp
  simp only[e2,zX,nK (NT hi)] at u2;dsimp only at r1;rw[<-r1];simp at u2;have ft:=λhi z=>QA hi z (g'.1.map (au .own)) g'.2 g'.1.length (by simp);simp -implicitDefEqProofs [ux,u1,u2,hw,vQ,Qz,ft,hA.o,hA.k,hA.m,hA.b,hB.o,hB.k,hB.m,hB.b];all_goals omega
def VH(A:List X)(hA:Pl A)(gf:Nat)(p:Kp->Bool)(ho:aB TT gf=true)(T:List (List X))(v:Kp)(n f:Nat)(vf:n<T.length)(hv:T[n]=au .own v)(hfn:f<n)(u:Kp)(hF:T[f]=au .own u\/T[f]=dA u)(hb:T.length<=1073741824)(hf:ev LI TT gf [.agg (au .af v),.ptr .af A]=some (.bool (p v),[.dead,.dead])):aA (ev LI TT) (aB TT) kz [(0,.ref 100000 []),(1,.fn gf [.ptr .af A]),(5,.int .i64 (f:Nat)),(6,.int .i64 ((n:Nat):Int)),(100000,.row .own 9 T)]=some (.normal,[(0,.ref 100000 []),(1,.fn gf [.ptr .af A]),(5,.int .i64 ((if p v=true then f else f+1:Nat):Int)),(6,.int .i64 ((n+1:Nat):Int)),(100000,.row .own 9 (if p v=true then T.set n (dA v) else (T.set n (dA v)).set f (au .own v)))]):=by
 have hw:=bY n (by omega);have dF:=bY f (by omega);have hm:=rV T n _ (aQ.2 ⟨vf,hv⟩);try simp at hf hv hm
 have Bc:f<T.length:=by omega
 cases hp:p v
 ·rw[hp] at hf;have hne:¬n=f:=by omega
  have vn:¬f=n:=by omega
  have hm2:∀u',T[f]=u'->∀w g,(T.set n w).modify f g=(T.set n w).set f (g u'):=λu' h w g=>rV _ f _ (by simp[sL,hne,Bc,h]) g;rcases hF with hF|hF;all_goals simp[dA] at hF
  all_goals have Ky:=hm2 _ hF
  all_goals clear hm2
  all_goals simp -implicitDefEqProofs [kz,wF,hw,dF,vf,hv,hf,hF,Bc,hne,vn,hm,Ky,iz,ho,lW,hA.o,hA.k,hA.m,hA.b,hp,dA]
 ·simp -implicitDefEqProofs [kz,wF,hw,dF,vf,hv,hf,hm,iz,ho,lW,hA.o,hA.k,hA.m,hA.b,hp,dA]
def VD(A:List X)(hA:Pl A)(gf:Nat)(T:List (List X))(n f:Nat)(hn:T.length=n):aA (ev LI TT) (aB TT) kz [(0,.ref 100000 []),(1,.fn gf [.ptr .af A]),(5,.int .i64 (f:Nat)),(6,.int .i64 ((n:Nat):Int)),(100000,.row .own 9 T)]=some (.exit 0,[(0,.ref 100000 []),(1,.fn gf [.ptr .af A]),(5,.int .i64 (f:Nat)),(6,.int .i64 ((n:Nat):Int)),(19,.bool false),(100000,.row .own 9 T)]):=by subst hn;simp -implicitDefEqProofs [kz,wF,hA.o,hA.k,hA.m,hA.b]
def VF(A:List X)(hA:Pl A)(gf:Nat)(p:Kp->Bool)(ho:aB TT gf=true)(l:List Kp)(hf:∀x∈l,ev LI TT gf [.agg (au .af x),.ptr .af A]=some (.bool (p x),[.dead,.dead]))(hb:l.length<=1073741824)(i0:Nat)(hi0:i0<l.length)(g:List Kp×List (List X))(hg:DX (au .own) dA (i0+1) g):∃g':List Kp×List (List X),g'.1=g.1++(l.drop (i0+1)).filter (λv=> !p v)/\DX (au .own) dA l.length g'/\bh (aA (ev LI TT) (aB TT) kz) [(0,.ref 100000 []),(1,.fn gf [.ptr .af A]),(5,.int .i64 ((g.1.length:Nat):Int)),(6,.int .i64 ((i0+1:Nat):Int)),(100000,.row .own 9 (g.1.map (au .own)++g.2++(l.drop (i0+1)).map (au .own)))]=some (.exit 0,[(0,.ref 100000 []),(1,.fn gf [.ptr .af A]),(5,.int .i64 ((g'.1.length:Nat):Int)),(6,.int .i64 (l.length:Nat)),(19,.bool false),(100000,.row .own 9 (g'.1.map (au .own)++g'.2))]):=by
 have hd:(l.drop (i0+1)).length+(i0+1)=l.length:=by rw[wW];omega
 refine⟨foldI (λ_ g v=>kL p dA g v) 0 (l.drop (i0+1)) g,JB ..,?_,?_⟩;·have:=DX.fold p (l.drop (i0+1)) 0 hg;rwa [show i0+1+(l.drop (i0+1)).length=l.length by omega] at this
 ·refine nu (f:=aA (ev LI TT) (aB TT) kz) (l.drop (i0+1)) (λi (g:List Kp×List (List X))=>[(0,.ref 100000 []),(1,.fn gf [.ptr .af A]),(5,.int .i64 ((g.1.length:Nat):Int)),(6,.int .i64 ((i0+1+i:Nat):Int)),(100000,.row .own 9 (g.1.map (au .own)++g.2++(l.drop (i0+1+i)).map (au .own)))]) (λ_ g v=>kL p dA g v) (λg=>[(0,.ref 100000 []),(1,.fn gf [.ptr .af A]),(5,.int .i64 ((g.1.length:Nat):Int)),(6,.int .i64 (l.length:Nat)),(19,.bool false),(100000,.row .own 9 (g.1.map (au .own)++g.2))]) (λi g=>DX (au .own) dA (i0+1+i) g) g hg (λi b g hi hl hinv=>?_) (λi b g hi hinv=>?_) (λg hinv=>?_)
  ·obtain⟨hl',rfl⟩:=aQ.1 hi;have jm:i0+1+i<l.length:=by rw[wW] at hl';omega
   have fH:(l.drop (i0+1))[i]=l[i0+1+i]:=by rw[Og]
   have e:l.drop (i0+1+i)=l[i0+1+i]::l.drop (i0+1+(i+1)):=by rw[o7 jm];rfl
   obtain⟨r1,r2,r3,⟨u,r4⟩,r5,r6⟩:=hinv.row p l[i0+1+i] ((l.drop (i0+1+(i+1))).map (au .own)) (g.1.map (au .own)++g.2++(l.drop (i0+1+i)).map (au .own)) (by rw[e,bC]);rw[fH];obtain⟨q1,q2⟩:=aQ.1 r2
   have hr4:∃h:g.1.length<(g.1.map (au .own)++g.2++(l.drop (i0+1+i)).map (au .own)).length,(g.1.map (au .own)++g.2++(l.drop (i0+1+i)).map (au .own))[g.1.length]=au .own u\/(g.1.map (au .own)++g.2++(l.drop (i0+1+i)).map (au .own))[g.1.length]=dA u:=by
    rcases r4 with r4|r4;·obtain⟨a,b⟩:=aQ.1 r4;exact⟨a,.inl b⟩
    ·obtain⟨a,b⟩:=aQ.1 r4;exact⟨a,.inr b⟩
   obtain⟨_,hr4⟩:=hr4;have hs:=VH A hA gf p ho _ l[i0+1+i] (i0+1+i) g.1.length q1 q2 r3 u hr4 (by rw[r1,cX,wW];omega) (hf _ (cB jm));rw[hs,r5,r6,show i0+1+i+1=i0+1+(i+1) by omega]
  ·exact hinv.go p b
  ·rw[show i0+1+(l.drop (i0+1)).length=l.length by omega] at hinv⊢;rw[N3,jF,sK];exact VD A hA gf _ _ _ (by rw[gT,cX];exact hinv.n)
def Xm(l:List Kp)(A:List X)(hA:Pl A)(gf:Nat)(p:Kp->Bool)(ho:aB TT gf=true)(hf:∀x∈l,ev LI TT gf [.agg (au .af x),.ptr .af A]=some (.bool (p x),[.dead,.dead]))(hb:l.length<=1073741824):ev LI TT 110 [.row .own 9 (l.map (au .own)),.fn gf [.ptr .af A]]=some (.row .own 9 ((l.filter (λv=> !p v)).map (au .own)),[.dead,.dead]):=by
 rw[aE (b:=ux) (rs:=[.t 4]) (n:=2) rfl rfl];have u1:=Xo l A hA gf p ho hf (by omega);cases hg:cS p 0 l with
 |none=>
  rw[hg] at u1;simp at u1;have hl:l.filter (λv=> !p v)=l:=N6.2 λx hx=>by have:=EP.1 hg x hx;simpa using this
  rw[hl];simp -implicitDefEqProofs [ux,u1,hA.o,hA.k,hA.m,hA.b]
 |some x=>
  obtain⟨i,b⟩:=x;rw[hg] at u1;simp at u1;obtain⟨e,hpb,hq,hfl⟩:=QJ hg;obtain⟨_,hi1,_⟩:=q9 hg;obtain⟨hi,_⟩:=aQ.1 hi1;rw[wN] at hi;have hw:=bY i (by omega);obtain⟨g',r1,r2,u2⟩:=VF A hA gf p ho l hf hb i hi (l.take i,[au .own b]) ⟨by simp;omega,by simp,λx hx=>⟨b,.inl (by simpa using hx)⟩⟩;rw[hfl];have hn:=r2.n
  have e2:(l.take i).map (au .own)++[au .own b]++(l.drop (i+1)).map (au .own)=l.map (au .own):=by
   conv=>rhs;rw[e]
   simp
  simp only[e2,zX,nK (NT hi)] at u2;dsimp only at r1;rw[<-r1];simp at u2;have ft:=λhi z=>QA hi z (g'.1.map (au .own)) g'.2 g'.1.length (by simp);simp -implicitDefEqProofs [ux,u1,u2,hw,vQ,Qz,ft,hA.o,hA.k,hA.m,hA.b];all_goals omega
end M
set_option maxHeartbeats 4000000
namespace M
open Go
variable [Lb]
def afs(o:Ob)(hb:aU o<=1073741824):(fJ o).length<=9223372036854775807:=by
 by_cases hok:dy o=true
 ·have hw:aU o=o.path.length+wL wS o.names+wL wS o.values+aJ o.resp:=rfl;have hrl:=TR o.resp;have hvl:=Uz o.values;have A:=Hq hok;have a2:=A.n4;have a1:=A.len;have a3:=vV o.t;have a4:=qY o.values.length (by omega);have et:fJ o=ql++32::(o.path++32::(dn o.t++32::(bJ o.values.length++10::(nG o.values++jv o.resp)))):=by unfold fJ qp uh jv;rw[aq hok,aq A.resp];simp
  rw[et];simp[Mf];omega
 ·rw[(S2 o).2 hok];simp
def qZ(s:Sh)(o:Ob):List Kp:=s.aC.filter λk=> !(decide (k.at_=s.next)||jy k.obj o)
def GR(s:Sh)(o:Ob):Bool:=dy o && !fT s.aG o && !decide (s.seq=100000) && !decide (eH s.seq (fJ o)=[])
def yI(s:Sh)(o:Ob):Sh:=⟨me s.aP s.next (eH s.seq (fJ o)),qZ s o++[⟨o,s.next,s.seq⟩],s.aG,ue s.next,s.seq+1⟩
def iu(s:Sh)(o:Ob):Sh:=if GR s o=true then yI s o else s
def OC(s:Sh):Pl [.ptr .af (mq .dead s)]:=⟨by simp[mq],by simp[mq],by simp[mq],by simp[mq]⟩
def Wz(o:Ob):Pl (cE .af o):=⟨by simp,by simp,by simp,by simp⟩
def O9(s:Sh)(o:Ob)(h:eT s=true)(hb:cx s<=1073741824)(ho:aU o<=1073741824):ev LI TT 70 [.ptr .own (bp .own s),.agg (cE .af o)]=some (.bool (GR s o),[.ptr .own (bp .own (iu s o)),.dead]):=by
 rw[aE (b:=tS) (rs:=[.t 4]) (n:=2) rfl rfl];have A:=si h;have hn:=A.n;have hq:=A.q;have iK:cx s=dm s.aP+wL cQ s.aC+wL bz s.aG:=rfl;have l1:=bg (w:=cQ) s.aC;have l2:=Ol (λk=> !(decide (k.at_=s.next)||jy k.obj o)) s.aC;have v1:=O4 o ho;have v2:=Jd s.seq (fJ o) (afs o ho);have v3:=xl o ho;have v4:=xk s.aG o (by omega) ho;try simp at v1 v2 v3 v4
 have hlz:((qZ s o).length+1)*136<=140737488355328:=by unfold qZ;omega
 have hw:=dz (n:=s.seq+1) (by omega) (by omega);unfold iu GR;cases g1:dy o;·simp -implicitDefEqProofs [tS,v1,v2,v3,v4,g1]
 cases g2:fT s.aG o;rotate_left;·simp -implicitDefEqProofs [tS,v1,v2,v3,v4,g1,g2]
 by_cases g3:s.seq=100000;·rw[g3] at v2;simp -implicitDefEqProofs [tS,v1,v2,v3,v4,g1,g2,g3]
 by_cases g4:eH s.seq (fJ o)=[];·rw[g4] at v2;simp -implicitDefEqProofs [tS,v1,v2,v3,v4,g1,g2,g3,g4]
 have v5:=Xn s.aC [.ptr .af (mq .dead s)] (cE .af o) (OC s) (Wz o) 111 (λk=>decide (k.at_=s.next)||jy k.obj o) rfl (λk hk=>X4 k .dead s o (by have:=sy hk;omega) ho) (by omega);have v6:=Pb ⟨s.aP,qZ s o,s.aG,s.next,s.seq⟩ s.next (eH s.seq (fJ o)) A.d
 have v7:=Ar o ho;have v8:=Ph s.next hn
 unfold Ht at v6;rw[show s.aC.filter (λk=> !(decide (k.at_=s.next)||jy k.obj o))=qZ s o from rfl] at v5;try simp[mq] at v5 v6 v7 v8
 unfold yI;simp -implicitDefEqProofs [tS,gN,fy,v1,v2,v3,v4,v5,v6,v7,v8,g1,g2,g3,g4,hw,hlz,cZ,Lh,Li,Lj,Ll,Lm];all_goals (repeat' split)<;>first|rfl|omega|(simp_all;done)|(simp_all;omega)|skip
end M
set_option maxHeartbeats 4000000
namespace M
open Go
variable [Lb]
end M
set_option maxHeartbeats 4000000
namespace M
open Go
variable [Lb]
def Tz(n:Int)(b:ah):(eH n b).length<=2040:=by
 unfold eH;split;·rename_i h;unfold MF;have l1:=qY n.toNat (by omega);have l2:=qY b.length (by omega);have l3:=xx 17 (uv (bJ n.toNat++32::(bJ b.length++10::b))) (Nat.lt_trans (M1 _) (by decide));simp;omega
 ·simp
def aed(s:Sh)(o:Ob):cx (iu s o)<=cx s+aU o+2100:=by
 unfold iu;split
 ·have h1:=Tn s.aP s.next (eH s.seq (fJ o))
  have h2:=Tz s.seq (fJ o);have h3:wL cQ (qZ s o)<=wL cQ s.aC:=UJ cQ _ _;have h4:wL cQ [⟨o,s.next,s.seq⟩]=aU o+1:=by simp[wL,cQ];omega
  show dm (me s.aP s.next (eH s.seq (fJ o)))+wL cQ (qZ s o++[⟨o,s.next,s.seq⟩])+wL bz s.aG<=dm s.aP+wL cQ s.aC+wL bz s.aG+aU o+2100;rw[oT];omega
 ·omega
end M
set_option maxHeartbeats 4000000
namespace M
open Go
variable [Lb]
def WS{α:Type}(p:α->Bool)(a b:List α):bq p (a++b)=(bq p a && bq p b):=by
 induction a with
 |nil=>simp[bq]
 |cons x a ih=>simp[bq,ih,Bool.and_assoc]
def MA{d:bR}{a:Int}(t:ah)(h:eR d=true)(ha:0<=a/\a<=19):eR (me d a t)=true:=by
 obtain⟨h0,h1,h2⟩:=qq h;have hf:=ET h;unfold me;split;·obtain⟨g0,g1,g2⟩:=qq hf;unfold eR;simp[g1,bq,vX,ha]
 ·rename_i hp;unfold eR at h⊢;simp only[av,bx,gT,di,jE,WS] at h⊢;simp[bq,vX,ha] at h⊢;exact⟨h.1,by omega⟩
def pn(s:Sh)(b:Bn):Bool:=eX b && !decide (5<=(s.aG.length:Int)) && !decide (s.seq=100000)
def Ee(s:Sh)(b:Bn):bR:=dZ (me s.aP s.aG.length (eH s.seq (gp b)))
def EE(s:Sh)(b:Bn):List Kp:=s.aC.filter λk=> !fT (s.aG++[b]) k.obj
def Ao(s:Sh)(b:Bn):Sh:=⟨Ee s b,EE s b,s.aG++[b],s.next,s.seq+1⟩
def kK(s:Sh)(b:Bn):Sh:=if pn s b=true then Ao s b else s
def ON(s:Sh)(b:Bn):cx (kK s b)<=cx s+bz b+2100:=by
 unfold kK;split
 ·have h1:=Tn s.aP s.aG.length (eH s.seq (gp b));have h2:=Tz s.seq (gp b);have h5:=EU (me s.aP s.aG.length (eH s.seq (gp b)));have h3:wL cQ (EE s b)<=wL cQ s.aC:=UJ cQ _ _;have h4:wL bz [b]=bz b+1:=by simp[wL];omega
  show dm (dZ (me s.aP s.aG.length (eH s.seq (gp b))))+wL cQ (EE s b)+wL bz (s.aG++[b])<=dm s.aP+wL cQ s.aC+wL bz s.aG+bz b+2100;rw[oT];omega
 ·omega
def Xa(b:Bn)(hb:bz b<=1073741824):(gp b).length<=9223372036854775807:=by
 have h1:=vV b.t;have h2:bz b=b.a.length+b.b.length:=rfl;have h3:(mA b.kind).length<=10:=by unfold mA;split<;>(try split)<;>decide
 unfold gp;split;·split<;>simp<;>omega
 ·simp
def O8(s:Sh)(b:Bn)(h:eT s=true)(hb:cx s<=1000000000)(ho:bz b<=10000000):ev LI TT 72 [.ptr .own (bp .own s),.agg (cY b)]=some (.bool (pn s b),[.ptr .own (bp .own (kK s b)),.dead]):=by
 rw[aE (b:=vD) (rs:=[.t 4]) (n:=2) rfl rfl];have A:=si h;have hn:=A.n;have hq:=A.q;have Kh:=A.b;have iK:cx s=dm s.aP+wL cQ s.aC+wL bz s.aG:=rfl;have l1:=bg (w:=cQ) s.aC;have v1:=Eg b (by omega);try simp at v1
 have hlz:(s.aG.length+1)*48<=140737488355328:=by omega
 have hw:=dz (n:=s.seq+1) (by omega) (by omega);unfold kK pn;cases g1:eX b;·simp -implicitDefEqProofs [vD,v1,g1]
 by_cases g2:5<=(s.aG.length:Int);·simp -implicitDefEqProofs [vD,v1,g1,g2]
 by_cases g3:s.seq=100000;·simp -implicitDefEqProofs [vD,v1,g1,g2,g3]
 have v2:=OU b (by omega);have v3:=Jd s.seq (gp b) (Xa b (by omega));have v4:=Pb s s.aG.length (eH s.seq (gp b)) A.d;have v5:=Eh (me s.aP s.aG.length (eH s.seq (gp b))) (MA _ A.d (by omega));have hwb:wL bz (s.aG++[b])<=1073741824:=by rw[oT];have:wL bz [b]=bz b+1:=(by simp[wL];omega);have e2:bz b<=10000000:=ho;omega
 have v6:=Xm s.aC [.ptr .af (mq .dead ⟨Ee s b,s.aC,s.aG++[b],s.next,s.seq+1⟩)] (OC _) 116 (λk=>fT (s.aG++[b]) k.obj) rfl (λk hk=>X2 k .dead ⟨Ee s b,s.aC,s.aG++[b],s.next,s.seq+1⟩ (by have:=sy hk;omega) hwb) (by omega);unfold Ht at v4;rw[show s.aC.filter (λk=> !fT (s.aG++[b]) k.obj)=EE s b from rfl] at v6;rw[show dZ (me s.aP s.aG.length (eH s.seq (gp b)))=Ee s b from rfl] at v5;try simp[mq] at v2 v3 v4 v5 v6
 unfold Ao;simp -implicitDefEqProofs [vD,gN,fy,v1,v2,v3,v4,v5,v6,g1,g2,g3,hw,hlz,cZ,Le,Lf,Lg];all_goals (repeat' split)<;>first|rfl|omega|(simp_all;done)|(simp_all;omega)|skip
end M
set_option maxHeartbeats 4000000
namespace M
open Go
variable [Lb]
end M
set_option maxHeartbeats 4000000
namespace M
open Go
variable [Lb]
def vO(q:Rq)(r:aV):Bool:=kr q && fA r && decide (q.method=1) && decide (r.status=200) && !(gY q.fields).ns && !(gY r.fields).ns && !(gY r.fields).pr && (gY r.fields).ha && qk (eL r.fields)
def ug(q:Rq)(r:aV)(t:Int):Ob:=⟨q.path,eL r.fields,valuesOf (eL r.fields) q.fields,r,t⟩
def nA(q:Rq)(r:aV)(t:Int):Bool:=vO q r && dy (ug q r t)
def lX(q:Rq)(r:aV)(t:Int):Ob:=if nA q r t=true then ug q r t else eM
def ny(a b:List aM):List aM:=b.foldl (λg f=>iM g f.name f.value) a
def merge(a b:aV):aV:=if fA ⟨a.status,ny a.fields b.fields,a.body⟩=true then ⟨a.status,ny a.fields b.fields,a.body⟩ else a
def jw(c:Ca)(k:Int)(q:Rq)(r:aV)(kind:Int):Rp:=⟨k,q,r,kind,c.now,eM,0⟩
def ku(c:Ca)(k:Int)(q:Rq)(r:aV)(kind:Int):Ca:=⟨c.ai,c.aF,c.now,c.seen,c.sent++[jw c k q r kind]⟩
def r9(c:Ca)(k:Int)(q:Rq)(st:Int):Ca:=ku c k q ⟨st,[],[]⟩ 4
def dK(c:Ca)(s:Sh):Ca:=⟨s,c.aF,c.now,c.seen,c.sent⟩
def pJ(c:Ca)(l:List Fl):Ca:=⟨c.ai,l,c.now,c.seen,c.sent⟩
def oK(p:ah)(t:Int):Bn:=⟨1,p,[],t⟩
def Df(c:Ca)(k:Int)(q:Rq):Ca:=r9 (dK c (kK c.ai (oK q.path c.now))) k q (if pn c.ai (oK q.path c.now)=true then 200 else 503)
def xM(c:Ca)(k:Int)(q:Rq)(o:Ob):Rp:=⟨k,q,answer q o c.now,1,c.now,o,c.ai.aG.length⟩
def Ba(c:Ca)(k:Int)(q:Rq)(o:Ob):Ca:=⟨c.ai,c.aF,c.now,c.seen,c.sent++[xM c k q o]⟩
def Al(l:List Fl)(q:Rq):Option (Nat×Fl):=cS (λx=>kH x.q q) 0 l
def sC(c:Ca)(k:Int)(q:Rq)(f:Fl):Ca:=match Al c.aF q with
 |some (i,x)=>if (x.who.length:Int)<5 then pJ c (c.aF.set i ⟨x.q,x.who++[k],x.old,x.fO⟩) else r9 c k q 503
 |none=>if 5<=(c.aF.length:Int) then r9 c k q 503 else pJ c (c.aF++[f])
def Ak(c:Ca)(k:Int)(q:Rq):Ca:=
 if ig c.ai q c.now=2 then Ba c k q (eE c.ai q c.now)
 else sC c k q ⟨q,[k],eE c.ai q c.now,decide (ig c.ai q c.now=3)⟩
def gM(c:Ca)(a:Nat)(f:Fl)(r:aV)(kind:Int):Ca:=⟨c.ai,c.aF.eraseIdx a,c.now,c.seen,c.sent++f.who.map λk=>jw c k f.q r kind⟩
def cH(c:Ca)(q:Rq)(r:aV):Ca:=⟨c.ai,c.aF,c.now,c.seen++[⟨q,r,c.now⟩],c.sent⟩
def qA(f:Fl):Rq:=⟨1,f.old.path,f.q.fields,[]⟩
def lu(c:Ca)(f:Fl)(r:aV):Ob:=lX (qA f) (merge f.old.resp r) c.now
def MO(c:Ca)(f:Fl)(r:aV):Bool:=nA (qA f) (merge f.old.resp r) c.now && decide ((lu c f r).names=f.old.names)
def zu(c:Ca)(a:Nat)(f:Fl)(r:aV):Ca:=
 if MO c f r=true then gM (dK c (iu c.ai (lu c f r))) a f (answer f.q (lu c f r) c.now) 3
 else gM c a f (merge f.old.resp r) 3
def HO(c:Ca)(a:Nat)(f:Fl)(r:aV):Ca:=
 if nA f.q r c.now=true then gM (dK c (iu c.ai (lX f.q r c.now))) a f r 2 else gM c a f r 2
def mS(c:Ca)(a:Int):Option Fl:=if 0<=a then c.aF[a.toNat]? else none
def vY(c:Ca)(a:Int)(r:aV):Ca×Int:=
 if fA r=true then (match mS c a with
  |none=>(c,2)
  |some f=>if 1495<=(c.seen.length:Int)\/1495<=(c.sent.length:Int) then (c,3)
   else if r.status=304/\f.fO=true then (zu (cH c f.q r) a.toNat f r,0) else (HO (cH c f.q r) a.toNat f r,0))
 else (c,1)
def va(c:Ca)(a:Int):Ca×Int:=match mS c a with
 |none=>(c,2)
 |some f=>if 1495<=(c.sent.length:Int) then (c,3) else (gM c a.toNat f ⟨504,[],[]⟩ 4,0)
def uJ(c:Ca)(k:Int)(q:Rq):Ca×Int:=
 if kr q=true then (if 1495<=(c.sent.length:Int) then (c,3) else if q.method=4 then (Df c k q,0) else (Ak c k q,0)) else (c,1)
def wz(c:Ca)(n:Int):Ca×Int:=if 0<=n/\n<=1000000 - c.now then (⟨c.ai,c.aF,c.now+n,c.seen,c.sent⟩,0) else (c,1)
def xd(b:Bn)(t:Int):Bn:=⟨b.kind,b.a,b.b,t⟩
def xe(c:Ca)(b:Bn):Ca×Int:=(dK c (kK c.ai (xd b c.now)),if pn c.ai (xd b c.now)=true then 0 else 3)
def JF(c:Ca)(d:bR):Ca:=dK c ⟨d,c.ai.aC,c.ai.aG,c.ai.next,c.ai.seq⟩
noncomputable def xw(c:Ca)(keep:List Bool):Ca:=⟨iw (ic c.ai.aP keep),[],c.now,c.seen,c.sent⟩
noncomputable def jI(c:Ca)(d:De):Ca×Int:=
 if d.kind=1 then uJ c d.client d.q
 else if d.kind=2 then vY c d.a d.resp
 else if d.kind=3 then va c d.a
 else if d.kind=4 then wz c d.a
 else if d.kind=5 then xe c d.iH
 else if d.kind=6 then (JF c (dZ c.ai.aP),0)
 else (xw c d.keep,0)
end M
set_option maxHeartbeats 4000000
namespace M
open Go
variable [Lb]
def HD{s:Sh}(h1:eR s.aP=true)(h2:s.aG.length<=5)(h3:5<=s.next/\s.next<=19)(h4:1<=s.seq/\s.seq<=100000)(h5:∀b∈s.aG,eX b=true)(h6:Aa s.seq s.aC):eT s=true:=by unfold eT;simp only[av,bx];exact⟨⟨⟨⟨⟨h1,by omega⟩,h3⟩,h4⟩,gj.2 h5⟩,C4.2 h6⟩
def Aa.sub{S S':Int}{l l':List Kp}(h:Aa S l)(hs:List.Sublist l' l)(hS:S<=S'):Aa S' l':=
 ⟨λx hx=>by have:=h.k x (hs.subset hx);exact⟨this.1,this.2.1,this.2.2.1,by omega⟩,h.p.sublist hs⟩
def Sj{s:Sh}{o:Ob}(h:eT s=true):eT (iu s o)=true:=by
 unfold iu;split
 ·rename_i g;have A:=si h;unfold GR at g;simp only[av,o6,Im] at g;obtain⟨⟨⟨g1,g2⟩,g3⟩,g4⟩:=g;have hn:=A.n;have hq:=A.q;have P:=C4.1 A.os;refine HD (MA _ A.d (by omega)) (by have:=A.b;simp only[yI];omega) (SS hn) (by simp only[yI];omega) (λb hb=>gj.1 A.bs b hb) ?_;have hs:List.Sublist (qZ s o) s.aC:=Vq;refine⟨λx hx=>?_,?_⟩
  ·rcases fE.1 hx with hx|hx;·have:=P.k x (hs.subset hx);exact⟨this.1,this.2.1,this.2.2.1,by simp only[yI];omega⟩
   ·simp at hx;subst hx;exact⟨g1,hn,by simp only;omega,by simp only[yI];omega⟩
  ·show (qZ s o++[_]).Pairwise _;rw[sF];refine⟨P.p.sublist hs,by simp,λx hx y hy=>?_⟩;simp at hy;subst hy;have h1:=P.k x (hs.subset hx);have h2:=(List.mem_filter.1 hx).2;simp at h2;exact⟨h2.1,h1.2.2.2⟩
 ·exact h
def OM{s:Sh}{b:Bn}(h:eT s=true):eT (kK s b)=true:=by
 unfold kK;split
 ·rename_i g;have A:=si h;unfold pn at g;simp only[av,o6,Im] at g;obtain⟨⟨g1,g2⟩,g3⟩:=g;have hn:=A.n;have hq:=A.q;have hb:=A.b;have P:=C4.1 A.os;refine HD (ET (MA _ A.d (by omega))) (by simp only[Ao,gT,Vw];omega) hn (by simp only[Ao];omega) (λc hc=>?_) (P.sub Vq (by simp only[Ao];omega));rcases fE.1 hc with hc|hc;·exact gj.1 A.bs c hc
  ·simp at hc;subst hc;exact g1
 ·exact h
def aeQ{d:bR}(h:eR d=true):eT (iw d)=true:=by
 have B:=yR d;have O:=CS d;have hm:=O.m;have hsub:=yO (iY d);refine HD h B.2.1 (aeX λk hk=>(G5 (hsub.subset hk)).1.a) (by simp only[iw];omega) B.1 ⟨λx hx=>?_,?_⟩;·have:=G5 (hsub.subset hx);exact⟨this.1.o,this.1.a,this.1.s.1,by have:=this.2;simp only[iw];omega⟩
 ·have h1:(iY d).Pairwise λx y=>x.at_≠y.at_:=((MW Kp.seq (nv d).1).pairwise_iff λ{x y} h e=>h e.symm).2 O.d;have h2:(iY d).Pairwise λx y=>x.seq<=y.seq:=aho Kp.seq (nv d).1;have h3:=L7 (iY d);exact((h1.sublist hsub).and ((h2.sublist hsub).and h3)).imp λ⟨a,b,c⟩=>⟨a,by omega⟩
structure je (c:Ca):Prop where
 s:eT c.ai=true
 n:0<=c.now/\c.now<=1000000
 e:c.seen.length<=1500
 t:c.sent.length<=1500
 f:c.aF.length<=5
 q:∀x∈c.aF,kr x.q=true/\(1<=x.who.length/\x.who.length<=5)/\(x.fO=true->dy x.old=true)
 p:c.aF.Pairwise λx y=>kH x.q y.q=false
def Ep{c:Ca}:dQ c=true↔je c:=by
 have hf:bq (ri c.aF) c.aF.zipIdx=true↔((∀x∈c.aF,kr x.q=true/\(1<=x.who.length/\x.who.length<=5)/\(x.fO=true->dy x.old=true))/\c.aF.Pairwise λx y=>kH x.q y.q=false):=by
  rw[gj]
  have key:(∀x∈c.aF.zipIdx,ri c.aF x=true)↔∀i (h:i<c.aF.length),(kr c.aF[i].q=true/\(1<=c.aF[i].who.length/\c.aF[i].who.length<=5)/\(c.aF[i].fO=true->dy c.aF[i].old=true))/\∀y∈c.aF.take i,kH y.q c.aF[i].q=false:=by
   constructor
   ·intro H i h
    have hm:(c.aF[i],i)∈c.aF.zipIdx:=by
     have:(c.aF.zipIdx)[i]'(by simpa using h)=(c.aF[i],i):=by simp
     rw[<-this];exact cB _
    have:=H _ hm;simp only[ri,av,bx,gj,qH,o6] at this;refine⟨⟨this.1.1.1,by omega,λh=>?_⟩,this.2⟩;rcases this.1.2 with g|g;·rw[h] at g;cases g
    ·exact g
   ·intro H x hx;obtain⟨i,hi,rfl⟩:=nO hx;have hl:i<c.aF.length:=by simpa using hi
    have:=H i hl;simp only[Vu,ri,av,bx,gj,qH,o6,mF];refine⟨⟨⟨this.1.1,by omega⟩,?_⟩,this.2⟩;cases g:c.aF[i].fO;·exact .inl rfl
    ·exact .inr (this.1.2.2 g)
  rw[key];constructor
  ·intro H;refine⟨λx hx=>?_,?_⟩;·obtain⟨i,hi,rfl⟩:=nO hx;exact(H i hi).1
   ·rw[lB];intro i j hi hj hij;exact(H j hj).2 _ (Ig.2 ⟨i,by omega,rfl⟩)
  ·rintro ⟨h1,h2⟩ i h;refine⟨h1 _ (cB h),λy hy=>?_⟩;obtain⟨j,hj,rfl⟩:=Ig.1 hy;rw[lB] at h2;exact h2 j i (by omega) h (by omega)
 unfold dQ AP;simp only[av,bx,hf];constructor;·rintro ⟨⟨⟨⟨h1,h2⟩,h3⟩,h4⟩,h5,h6,h7⟩;exact⟨h1,h2,by omega,by omega,by omega,h6,h7⟩
 ·rintro ⟨h1,h2,h3,h4,h5,h6,h7⟩;exact⟨⟨⟨⟨h1,h2⟩,by omega⟩,by omega⟩,by omega,h6,h7⟩
end M
set_option maxHeartbeats 4000000
namespace M
open Go
variable [Lb]
def ZB{s:Sh}{q:Rq}{o:Ob}(h:fS s q=some o):dy o=true:=by obtain⟨g,k,hk,rfl,_⟩:=QF h;exact((C4.1 (si g).os).k k hk).1
def PZ(s:Sh)(q:Rq)(now:Int):(ig s q now=1/\lF q=false/\eE s q now=eM)\/(ig s q now=4/\lF q=true/\fS s q=none/\eE s q now=eM)\/(∃o,fS s q=some o/\lF q=true/\eE s q now=o/\((ig s q now=2/\tq o.resp.fields o.t now=true/\(gY q.fields).nc=false)\/ig s q now=3)):=by
 unfold ig eE AD;cases ha:lF q;·simp
 ·cases hf:fS s q with
  |none=>simp
  |some o=>refine .inr (.inr ⟨o,rfl,rfl,by simp,?_⟩);cases h1:tq o.resp.fields o.t now<;>cases h2:(gY q.fields).nc<;>simp[h1,h2]
def Y0{s:Sh}{q:Rq}{now:Int}(h:ig s q now=3\/ig s q now=2):dy (eE s q now)=true:=by
 rcases PZ s q now with ⟨h1,_⟩|⟨h1,_⟩|⟨o,ho,_,e,_⟩;·omega
 ·omega
 ·rw[e];exact ZB ho
def je.sent{c:Ca}(h:je c){l:List Rp}(hl:c.sent.length+l.length<=1500):je ⟨c.ai,c.aF,c.now,c.seen,c.sent++l⟩:=
 ⟨h.s,h.n,h.e,by simp;omega,h.f,h.q,h.p⟩
def je.ai{c:Ca}(h:je c){s:Sh}(hs:eT s=true):je (dK c s):=⟨hs,h.n,h.e,h.t,h.f,h.q,h.p⟩
def je.seen{c:Ca}(h:je c){q:Rq}{r:aV}(hl:c.seen.length<1500):je (cH c q r):=⟨h.s,h.n,by simp[cH];omega,h.t,h.f,h.q,h.p⟩
def WR{l:List Fl}{q:Rq}(h:Al l q=none):∀x∈l,kH x.q q=false:=λx hx=>by have:=EP.1 h x hx;simpa using this
def akq{c:Ca}{k:Int}{q:Rq}{f:Fl}(h:je c)(ht:c.sent.length<1495)(hf:f.q=q/\kr q=true/\(1<=f.who.length/\f.who.length<=5)/\(f.fO=true->dy f.old=true)):je (sC c k q f):=by
 unfold sC;split
 ·rename_i i x hi;obtain⟨_,hi1,_⟩:=q9 hi;rw[wN] at hi1;obtain⟨hl,rfl⟩:=aQ.1 hi1;split
  ·rename_i hw;have hx:=h.q _ (cB hl);refine⟨h.s,h.n,h.e,h.t,by simp[pJ];exact h.f,λy hy=>?_,?_⟩
   ·rcases Ie hy with hy|rfl;·exact h.q y hy
    ·exact⟨hx.1,by simp;omega,hx.2.2⟩
   ·have hp:=h.p;simp only[pJ];rw[lB] at hp⊢;intro a b ha hb hab;have ha':a<c.aF.length:=by simpa using ha
    have hb':b<c.aF.length:=by simpa using hb
    have:=hp a b ha' hb' hab;simp only[List.getElem_set];split
    ·rename_i e;subst e;split;·rename_i e;omega
     ·exact this
    ·split;·rename_i e;subst e;exact this
     ·exact this
  ·exact h.sent (by simp;omega)
 ·rename_i hn;split;·exact h.sent (by simp;omega)
  ·refine⟨h.s,h.n,h.e,h.t,by simp[pJ];omega,λy hy=>?_,?_⟩
   ·rcases fE.1 hy with hy|hy;·exact h.q y hy
    ·simp at hy;subst hy;rw[hf.1];exact hf.2
   ·simp only[pJ];rw[sF];refine⟨h.p,by simp,λx hx y hy=>?_⟩;simp at hy;subst hy;rw[hf.1];exact WR hn x hx
def WX{c:Ca}{k:Int}{q:Rq}(h:je c)(ht:c.sent.length<1495)(hq:kr q=true):je (Ak c k q):=by
 unfold Ak;split;·exact h.sent (by simp;omega)
 ·exact akq h ht ⟨rfl,hq,by simp,λh=>Y0 (.inl (by simpa using h))⟩
def C9{c:Ca}{a:Nat}{f:Fl}{r:aV}{kind:Int}(h:je c)(ht:c.sent.length<1495)(hf:f.who.length<=5):je (gM c a f r kind):=by have hs:List.Sublist (c.aF.eraseIdx a) c.aF:=List.eraseIdx_sublist ..;exact⟨h.s,h.n,h.e,by simp[gM];omega,by have:=hs.length_le;have:=h.f;simp only[gM];omega,λx hx=>h.q x (hs.subset hx),h.p.sublist hs⟩
def tg{c:Ca}{a:Int}{f:Fl}(h:mS c a=some f):0<=a/\a.toNat<c.aF.length/\c.aF[a.toNat]?=some f/\f∈c.aF:=by
 unfold mS at h;split at h;·rename_i g;obtain⟨hl,e⟩:=aQ.1 h;exact⟨g,hl,h,by rw[<-e];exact cB _⟩
 ·cases h
def Y3{c:Ca}{d:De}(hc:dQ c=true):dQ (jI c d).1=true:=by
 have h:=Ep.1 hc;rw[Ep];unfold jI;split
 ·unfold uJ;split
  ·rename_i hq;split;·exact h
   ·split;·exact(h.ai (OM h.s)).sent (by simp only[dK];simp;omega)
    ·exact WX h (by omega) hq
  ·exact h
 split
 ·unfold vY;split
  ·split;·exact h
   ·rename_i f hf;obtain⟨f0,f1,f2,f3⟩:=tg hf;have hw:=(h.q f f3).2.1.2;split;·exact h
    ·rename_i hn;have hs:je (cH c f.q d.resp):=h.seen (by omega);have ht:(cH c f.q d.resp).sent.length<1495:=by simp only[cH];omega
     split
     ·unfold zu;split;·exact C9 (hs.ai (Sj h.s)) ht hw
      ·exact C9 hs ht hw
     ·unfold HO;split;·exact C9 (hs.ai (Sj h.s)) ht hw
      ·exact C9 hs ht hw
  ·exact h
 split
 ·unfold va;split;·exact h
  ·rename_i f hf;obtain⟨f0,f1,f2,f3⟩:=tg hf;split;·exact h
   ·exact C9 h (by omega) (h.q f f3).2.1.2
 split
 ·unfold wz;split;·have:=h.n;exact⟨h.s,by simp only;omega,h.e,h.t,h.f,h.q,h.p⟩
  ·exact h
 split;·exact h.ai (OM h.s)
 split;·have A:=si h.s;exact h.ai (HD (ET A.d) (by have:=A.b;simp only;omega) A.n A.q (λb hb=>gj.1 A.bs b hb) (C4.1 A.os))
 ·exact⟨aeQ (Jw _ (si h.s).d),h.n,h.e,h.t,by simp[xw],by simp[xw],by simp[xw]⟩
end M
set_option maxHeartbeats 4000000
namespace M
open Go
variable [Lb]
def uP(q:Rq)(hb:q.fields.length<=1073741824):ev LI TT 31 [.agg (dN .af q)]=some (.agg (dN .own q),[.dead]):=by
 rw[aE (b:=Gn) (rs:=[.c 2 4 true 29]) (n:=1) rfl rfl];have u1:=LP q.fields hb;try simp at u1
 simp -implicitDefEqProofs [Gn,u1];all_goals (repeat' split)<;>first|rfl|omega|(simp_all;done)|(simp_all;omega)|skip
def wh(q:Rq):q.fields.length<=bn q:=by have:=bg (w:=aL) q.fields;have e:bn q=q.path.length+wL aL q.fields+q.body.length:=rfl;omega
def zq(r:aV):r.fields.length<=aJ r:=by have:=bg (w:=aL) r.fields;have e:aJ r=wL aL r.fields+r.body.length:=rfl;omega
def Ye(a:Rp)(hb:cL a<=1073741824):ev LI TT 34 [.agg (dY .af a)]=some (.agg (dY .own a),[.dead]):=by
 rw[aE (b:=Gm) (rs:=[.c 2 18 true 62]) (n:=1) rfl rfl];have hw:cL a=bn a.q+aJ a.resp+aU a.obj:=rfl;have h1:=wh a.q;have h2:=zq a.resp;have u1:=uP a.q (by omega);try simp at u1
 have u2:=pq a.resp (by omega);try simp at u2
 have u3:=Ar a.obj (by omega);try simp at u3
 simp -implicitDefEqProofs [Gm,u1,u2,u3];all_goals (repeat' split)<;>first|rfl|omega|(simp_all;done)|(simp_all;omega)|skip
def ag5(l:List Int):ek (l.map eI)=true:=by induction l<;>simp_all[ek,scalar]
def akp{l:List Se}{x:Se}(h:x∈l):bn x.q+aJ x.resp<=wL fB l:=gB (w:=fB) h
def fR(c:Ca):aN c=cx c.ai+wL cm c.aF+wL fB c.seen+wL cL c.sent:=rfl
def Vz(c:Ca)(hc:aN c<=1073741824):bh (aA (ev LI TT) (aB TT) Cy) [(1,.ptr .own (aI .af c)),(2,.ptr .own (aI .own ⟨⟨⟨[],[]⟩,[],[],0,0⟩,[],0,[],[]⟩)),(3,.ptr .own (aI .own ⟨c.ai,[],c.now,[],[]⟩)),(16,.aj 1 [] 0 6),(17,.row .af 13 (c.aF.map (cj .af))),(18,.int .i64 c.aF.length),(19,.int .i64 0)]=
  some (.exit 0,[(1,.ptr .own (aI .af c)),(2,.ptr .own (aI .own ⟨⟨⟨[],[]⟩,[],[],0,0⟩,[],0,[],[]⟩)),(3,.ptr .own (aI .own ⟨c.ai,c.aF,c.now,[],[]⟩)),(16,.aj 1 [] 0 6),(17,.row .af 13 (c.aF.map (cj .af))),(18,.int .i64 c.aF.length),(19,.int .i64 c.aF.length),(20,.bool false)]):=by
 have:=tZ (xt:=0) (f:=aA (ev LI TT) (aB TT) Cy) c.aF (λf=>[f]) (λi out=>[(1,.ptr .own (aI .af c)),(2,.ptr .own (aI .own ⟨⟨⟨[],[]⟩,[],[],0,0⟩,[],0,[],[]⟩)),(3,.ptr .own (aI .own ⟨c.ai,out,c.now,[],[]⟩)),(16,.aj 1 [] 0 6),(17,.row .af 13 (c.aF.map (cj .af))),(18,.int .i64 c.aF.length),(19,.int .i64 i)])
  (λout=>[(1,.ptr .own (aI .af c)),(2,.ptr .own (aI .own ⟨⟨⟨[],[]⟩,[],[],0,0⟩,[],0,[],[]⟩)),(3,.ptr .own (aI .own ⟨c.ai,out,c.now,[],[]⟩)),(16,.aj 1 [] 0 6),(17,.row .af 13 (c.aF.map (cj .af))),(18,.int .i64 c.aF.length),(19,.int .i64 c.aF.length),(20,.bool false)]) (λi b out hi hl hout=>?_) (λout hout=>?_)
 ·rw[show c.aF.flatMap (λf=>[f])=c.aF by simp] at this;exact this
 ·obtain⟨_,rfl⟩:=aQ.1 hi;have kf:=fR c;have hlf:=bg (w:=cm) c.aF;have hw:=bY i (by omega);have hlo:out.length=i:=by rw[hout];exact xI (λk=>k) _ _ (by omega)
  have hlz:(i+1)*216<=140737488355328:=by omega
  have hm:=gB (w:=cm) (cB hl);have xN:cm c.aF[i]=bn (c.aF[i]).q+wL wO (c.aF[i]).who+aU (c.aF[i]).old:=rfl;have h1:=wh (c.aF[i]).q;have h2:=bg (w:=wO) (c.aF[i]).who;have u1:=uP (c.aF[i]).q (by omega);have u2:=aec (c.aF[i]).who (by omega);have u3:=Ar (c.aF[i]).old (by omega);try simp at u1 u2 u3
  simp -implicitDefEqProofs [Cy,Lt,hl,hw,u1,u2,u3,hlo,hlz,cZ]
 ·simp -implicitDefEqProofs [Cy,Lt]
def VA(c:Ca)(hc:aN c<=1073741824):bh (aA (ev LI TT) (aB TT) Cz) [(1,.ptr .own (aI .af c)),(2,.ptr .own (aI .own ⟨⟨⟨[],[]⟩,[],[],0,0⟩,[],0,[],[]⟩)),(3,.ptr .own (aI .own ⟨c.ai,c.aF,c.now,[],[]⟩)),(41,.aj 1 [] 0 8),(42,.row .af 8 (c.seen.map (pF .af))),(43,.int .i64 c.seen.length),(44,.int .i64 0)]=
  some (.exit 2,[(1,.ptr .own (aI .af c)),(2,.ptr .own (aI .own ⟨⟨⟨[],[]⟩,[],[],0,0⟩,[],0,[],[]⟩)),(3,.ptr .own (aI .own ⟨c.ai,c.aF,c.now,c.seen,[]⟩)),(41,.aj 1 [] 0 8),(42,.row .af 8 (c.seen.map (pF .af))),(43,.int .i64 c.seen.length),(44,.int .i64 c.seen.length),(45,.bool false)]):=by
 have:=tZ (xt:=2) (f:=aA (ev LI TT) (aB TT) Cz) c.seen (λf=>[f]) (λi out=>[(1,.ptr .own (aI .af c)),(2,.ptr .own (aI .own ⟨⟨⟨[],[]⟩,[],[],0,0⟩,[],0,[],[]⟩)),(3,.ptr .own (aI .own ⟨c.ai,c.aF,c.now,out,[]⟩)),(41,.aj 1 [] 0 8),(42,.row .af 8 (c.seen.map (pF .af))),(43,.int .i64 c.seen.length),(44,.int .i64 i)])
  (λout=>[(1,.ptr .own (aI .af c)),(2,.ptr .own (aI .own ⟨⟨⟨[],[]⟩,[],[],0,0⟩,[],0,[],[]⟩)),(3,.ptr .own (aI .own ⟨c.ai,c.aF,c.now,out,[]⟩)),(41,.aj 1 [] 0 8),(42,.row .af 8 (c.seen.map (pF .af))),(43,.int .i64 c.seen.length),(44,.int .i64 c.seen.length),(45,.bool false)]) (λi b out hi hl hout=>?_) (λout hout=>?_)
 ·rw[show c.seen.flatMap (λf=>[f])=c.seen by simp] at this;exact this
 ·obtain⟨_,rfl⟩:=aQ.1 hi;have kf:=fR c;have hlf:=bg (w:=fB) c.seen;have hw:=bY i (by omega);have hlo:out.length=i:=by rw[hout];exact xI (λk=>k) _ _ (by omega)
  have hlz:(i+1)*120<=140737488355328:=by omega
  have hm:=akp (cB hl);have h1:=wh (c.seen[i]).q;have h2:=zq (c.seen[i]).resp;have u1:=uP (c.seen[i]).q (by omega);have u2:=pq (c.seen[i]).resp (by omega);try simp at u1 u2
  simp -implicitDefEqProofs [Cz,Lu,hl,hw,u1,u2,hlo,hlz,cZ]
 ·simp -implicitDefEqProofs [Cz,Lu]
def VB(c:Ca)(hc:aN c<=1073741824):bh (aA (ev LI TT) (aB TT) CA) [(1,.ptr .own (aI .af c)),(2,.ptr .own (aI .own ⟨⟨⟨[],[]⟩,[],[],0,0⟩,[],0,[],[]⟩)),(3,.ptr .own (aI .own ⟨c.ai,c.aF,c.now,c.seen,[]⟩)),(63,.aj 1 [] 0 9),(64,.row .af 18 (c.sent.map (dY .af))),(65,.int .i64 c.sent.length),(66,.int .i64 0)]=
  some (.exit 4,[(1,.ptr .own (aI .af c)),(2,.ptr .own (aI .own ⟨⟨⟨[],[]⟩,[],[],0,0⟩,[],0,[],[]⟩)),(3,.ptr .own (aI .own ⟨c.ai,c.aF,c.now,c.seen,c.sent⟩)),(63,.aj 1 [] 0 9),(64,.row .af 18 (c.sent.map (dY .af))),(65,.int .i64 c.sent.length),(66,.int .i64 c.sent.length),(67,.bool false)]):=by
 have:=tZ (xt:=4) (f:=aA (ev LI TT) (aB TT) CA) c.sent (λf=>[f]) (λi out=>[(1,.ptr .own (aI .af c)),(2,.ptr .own (aI .own ⟨⟨⟨[],[]⟩,[],[],0,0⟩,[],0,[],[]⟩)),(3,.ptr .own (aI .own ⟨c.ai,c.aF,c.now,c.seen,out⟩)),(63,.aj 1 [] 0 9),(64,.row .af 18 (c.sent.map (dY .af))),(65,.int .i64 c.sent.length),(66,.int .i64 i)])
  (λout=>[(1,.ptr .own (aI .af c)),(2,.ptr .own (aI .own ⟨⟨⟨[],[]⟩,[],[],0,0⟩,[],0,[],[]⟩)),(3,.ptr .own (aI .own ⟨c.ai,c.aF,c.now,c.seen,out⟩)),(63,.aj 1 [] 0 9),(64,.row .af 18 (c.sent.map (dY .af))),(65,.int .i64 c.sent.length),(66,.int .i64 c.sent.length),(67,.bool false)]) (λi b out hi hl hout=>?_) (λout hout=>?_)
 ·rw[show c.sent.flatMap (λf=>[f])=c.sent by simp] at this;exact this
 ·obtain⟨_,rfl⟩:=aQ.1 hi;have kf:=fR c;have hlf:=bg (w:=cL) c.sent;have hw:=bY i (by omega);have hlo:out.length=i:=by rw[hout];exact xI (λk=>k) _ _ (by omega)
  have hlz:(i+1)*264<=140737488355328:=by omega
  have hm:=gB (w:=cL) (cB hl);have u1:=Ye c.sent[i] (by omega);try simp at u1
  simp -implicitDefEqProofs [CA,Lv,hl,hw,u1,hlo,hlz,cZ]
 ·simp -implicitDefEqProofs [CA,Lv]
def Em(c:Ca)(hc:aN c<=1073741824):ev LI TT 18 [.agg (aI .af c)]=some (.agg (aI .own c),[.dead]):=by
 rw[aE (b:=Gi) (rs:=[.c 2 10 true 42]) (n:=1) rfl rfl];have kf:=fR c;have u1:=Yf c.ai (by omega);try simp at u1
 have u2:=Vz c hc;try simp at u2
 have u3:=VA c hc;try simp at u3
 have u4:=VB c hc;try simp at u4
 simp -implicitDefEqProofs [Gi,u1,u2,u3,u4,Lw,Lx];all_goals (repeat' split)<;>first|rfl|omega|(simp_all;done)|(simp_all;omega)|skip
def Ja(c:Ca)(k:Int)(q:Rq)(r:aV)(kd:Int)(hc:c.sent.length<=1073741824)(hq:bn q<=1073741824)(hr:aJ r<=1073741824):ev LI TT 114 [.ptr .own (aI .own c),.int .i64 k,.agg (dN .af q),.agg (cF .af r),.int .i64 kd]=some (.ak [],[.ptr .own (aI .own (ku c k q r kd)),.dead,.dead,.dead,.dead]):=by
 rw[aE (b:=FB) (rs:=[]) (n:=5) rfl rfl];have h1:=wh q;have h2:=zq r;have hz:(c.sent.length+1)*264<=140737488355328:=by omega
 have u1:=uP q (by omega);try simp at u1
 have u2:=pq r (by omega);try simp at u2
 simp -implicitDefEqProofs [FB,u1,u2,hz,cZ,ku,jw,eM,KW,KX,KY,KZ,K0];all_goals (repeat' split)<;>first|rfl|omega|(simp_all;done)|(simp_all;omega)|skip
def I9(c:Ca)(k:Int)(q:Rq)(st:Int)(hc:c.sent.length<=1073741824)(hq:bn q<=1073741824):ev LI TT 101 [.ptr .own (aI .own c),.int .i64 k,.agg (dN .af q),.int .i64 st]=some (.ak [],[.ptr .own (aI .own (r9 c k q st)),.dead,.dead,.dead]):=by
 rw[aE (b:=FA) (rs:=[]) (n:=4) rfl rfl];have h0:aJ ⟨st,[],[]⟩<=1073741824:=by simp[aJ,wL]
 have u1:=Ja c k q ⟨st,[],[]⟩ 4 hc hq h0;try simp at u1
 simp -implicitDefEqProofs [FA,u1,r9];all_goals (repeat' split)<;>first|rfl|omega|(simp_all;done)|(simp_all;omega)|skip
end M
set_option maxHeartbeats 4000000
namespace M
open Go
variable [Fd]
def XC(c:Ca)(d:De)(h:eT c.ai=true)(hc:aN c<=100000000)(hq:bn d.q<=1100000):ev LI TT 61 [.ptr .own (aI .own c),.agg (ff .af d)]=some (.ak [],[.ptr .own (aI .own (Df c d.client d.q)),.dead]):=by
 rw[aE (b:=BB) (rs:=[]) (n:=2) rfl rfl];have kf:=fR c;have hl:=bg (w:=cL) c.sent;have hqw:bn d.q=d.q.path.length+wL aL d.q.fields+d.q.body.length:=rfl;have tA:bz (oK d.q.path c.now)=d.q.path.length+0:=rfl;obtain⟨b,hb,fG,fH,mY,hb4⟩:∃b,b=oK d.q.path c.now/\b.kind=1/\b.a=d.q.path/\b.b=[]/\b.t=c.now:=⟨_,rfl,rfl,rfl,rfl,rfl⟩;unfold Df;rw[<-hb] at tA⊢;have u1:=O8 c.ai b h (by omega) (by omega);try simp at u1
 simp[fG,fH,mY,hb4] at u1;generalize kK c.ai b=S at*;have v2:=I9 (dK c S) d.client d.q 200 (by simp only[dK];omega) (by omega);have v3:=I9 (dK c S) d.client d.q 503 (by simp only[dK];omega) (by omega);cases g:pn c.ai b<;>rw[g] at u1;·rw[ay (by simp)];generalize r9 (dK c S) d.client d.q 503=R2 at v3⊢;simp[dK] at v3;simp -implicitDefEqProofs [BB,u1,v3]
 rw[aq rfl];generalize r9 (dK c S) d.client d.q 200=R1 at v2⊢;simp[dK] at v2;simp -implicitDefEqProofs [BB,u1,v2];all_goals (repeat' split)<;>first|rfl|omega|(simp_all;done)|(simp_all;omega)|skip
def Xz(c:Ca)(d:De)(o:Ob)(hc:aN c<=100000000)(hq:bn d.q<=1100000)(ho:aU o<=100000000)(h3:bI o.t)(h4:bI c.now):ev LI TT 64 [.ptr .own (aI .own c),.agg (ff .af d),.agg (cE .own o)]=some (.ak [],[.ptr .own (aI .own (Ba c d.client d.q o)),.dead,.dead]):=by
 rw[aE (b:=Fy) (rs:=[]) (n:=3) rfl rfl];have kf:=fR c;have hl:=bg (w:=cL) c.sent;have h1:=wh d.q;have hz:(c.sent.length+1)*264<=140737488355328:=by omega
 have u1:=uP d.q (by omega);try simp at u1
 have u2:=I8 d.q o c.now (by omega) ho h3 h4;try simp at u2
 unfold Ba xM;generalize answer d.q o c.now=A at u2⊢;simp -implicitDefEqProofs [Fy,u1,u2,hz,cZ,KR,KS,KT,KU,KV];all_goals (repeat' split)<;>first|rfl|omega|(simp_all;done)|(simp_all;omega)|skip
def XG(x:Fl)(d:De)(hx:bn x.q<=1073741824)(hq:bn d.q<=1073741824):ev LI TT 104 [.agg (cj .af x),.ptr .af (ff .af d)]=some (.bool (kH x.q d.q),[.dead,.dead]):=by
 rw[aE (b:=FC) (rs:=[.t 3]) (n:=2) rfl rfl];have u1:=OT x.q d.q (by omega) (by omega);try simp at u1
 simp -implicitDefEqProofs [FC,u1];all_goals (repeat' split)<;>first|rfl|omega|(simp_all;done)|(simp_all;omega)|skip
def VN(l:List Fl)(A:List X)(hA:Pl A)(gf:Nat)(p:Fl->Bool)(ho:aB TT gf=true)(hf:∀x∈l,ev LI TT gf [.agg (cj .af x),.ptr .af A]=some (.bool (p x),[.dead,.dead]))(hb:l.length<=9223372036854775807):bh (aA (ev LI TT) (aB TT) DF) [(0,.row .af 13 (l.map (cj .af))),(1,.fn gf [.ptr .af A]),(7,.int .i64 l.length),(8,.int .i64 0)]=(cS p 0 (l)).elim (some (.exit 0,[(0,.row .af 13 (l.map (cj .af))),(1,.fn gf [.ptr .af A]),(7,.int .i64 l.length),(8,.int .i64 (l).length),(9,.bool false)])) λx=>some (.ret,(λ(i:Nat) b=>[(4,.int .i64 i)]) x.1 x.2):=by
 refine vN (f:=aA (ev LI TT) (aB TT) DF) (l) (λi=>[(0,.row .af 13 (l.map (cj .af))),(1,.fn gf [.ptr .af A]),(7,.int .i64 l.length),(8,.int .i64 i)]) p (λ(i:Nat) b=>[(4,.int .i64 i)]) _ (λi b hi hl=>?_) ?_
 ·have hw:=bY i (by first|omega|(simp at hl;omega));obtain⟨_,rfl⟩:=aQ.1 hi;have u1:=hf l[i] (cB hl);try simp at u1
  simp -implicitDefEqProofs [DF,Nu,hl,hw,u1,ho,lW,hA.o,hA.k,hA.m,hA.b];all_goals (repeat' split)<;>first|rfl|omega|(simp_all;done)|(simp_all;omega)|skip
 ·simp -implicitDefEqProofs [DF,Nu,hA.o,hA.k,hA.m,hA.b]
def Xq(l:List Fl)(A:List X)(hA:Pl A)(gf:Nat)(p:Fl->Bool)(ho:aB TT gf=true)(hf:∀x∈l,ev LI TT gf [.agg (cj .af x),.ptr .af A]=some (.bool (p x),[.dead,.dead]))(hb:l.length<=9223372036854775807):ev LI TT 103 [.row .af 13 (l.map (cj .af)),.fn gf [.ptr .af A]]=some (.int .i64 ((cS p 0 l).elim (-1) λx=>(x.1:Int)),[.dead,.dead]):=by
 rw[aE (b:=DH) (rs:=[.t 4]) (n:=2) rfl rfl];have u1:=VN l A hA gf p ho hf hb;try simp at u1
 cases g:cS p 0 l with
 |none=>rw[g] at u1;simp at u1;simp -implicitDefEqProofs [DH,u1,hA.o,hA.k,hA.m,hA.b]
 |some x=>
 rw[g] at u1;simp at u1;simp -implicitDefEqProofs [DH,u1,hA.o,hA.k,hA.m,hA.b];all_goals (repeat' split)<;>first|rfl|omega|(simp_all;done)|(simp_all;omega)|skip
end M
