/- What the functions come to in the machine; no conditions. -/
import Derived.Test.YtcibpfbfblmedaaGreatDoorTab
import Derived.Test.YtcibpfbfblmedaaGreatDoorMc
set_option linter.defProp false
set_option linter.unusedSectionVars false
set_option linter.unusedVariables false
set_option linter.unusedSimpArgs false
namespace M
open Go
variable [Lb]
end M
namespace M
open Go
variable [Lb]
@[simp] def aiZ(x:Int)(lo:Int)(hi:Int):ev LI TT 16 [.int .i64 x,.int .i64 lo,.int .i64 hi]=some (.bool ((decide (lo<=x/\x<=hi))),[.dead,.dead,.dead]):=by rw[aF (b:=E7) (rs:=[.t 6]) (n:=3) rfl rfl];simp -implicitDefEqProofs [E7];try (by_cases h1:lo<=x<;>by_cases h2:x<=hi<;>simp[h1,h2])
def T7(s:ah)(hb:s.length<=9223372036854775807):aX (aA (ev LI TT) (aB TT) Bg) [(0,.str ⟨s.toArray⟩),(3,.int .i64 0)]=if bT Ch (s)=true then some (.exit 0,[(0,.str ⟨s.toArray⟩),(3,.int .i64 (s).length),(7,.bool false)]) else some (.ret,[(2,.bool false)]):=by
 refine lE (f:=aA (ev LI TT) (aB TT) Bg) (s) (λi=>[(0,.str ⟨s.toArray⟩),(3,.int .i64 i)]) Ch _ _ (λi b hi hl=>?_) ?_;·have hw:=cw i (by first|omega|(simp at hl;omega));obtain⟨_,rfl⟩:=aQ.1 hi;unfold Ch;simp -implicitDefEqProofs [Bg,JG,hl,hw];all_goals (repeat' split)<;>first|rfl|omega|(simp_all;done)|(simp_all;omega)|skip
 ·simp -implicitDefEqProofs [Bg,JG]
def Hp(s:ah)(hb:s.length<=9223372036854775807):ev LI TT 97 [.str ⟨s.toArray⟩]=some (.bool ((gD s)),[.dead]):=by
 rw[aF (b:=EO) (rs:=[.t 2]) (n:=1) rfl rfl];unfold gD;have u1:=T7 s hb;try simp at u1
 simp -implicitDefEqProofs [EO,u1];all_goals (repeat' split)<;>first|rfl|omega|(simp_all;done)|(simp_all;omega)|skip
def Ua(s:ah)(lo:UInt8)(hb:s.length<=9223372036854775807):aX (aA (ev LI TT) (aB TT) Bj) [(0,.str ⟨s.toArray⟩),(1,.int .u8 (lo.toNat:Int)),(5,.int .i64 0)]=if bT (pN lo.toNat) (s)=true then some (.exit 0,[(0,.str ⟨s.toArray⟩),(1,.int .u8 (lo.toNat:Int)),(5,.int .i64 (s).length),(9,.bool false)]) else some (.ret,[(4,.bool false)]):=by
 refine lE (f:=aA (ev LI TT) (aB TT) Bj) (s) (λi=>[(0,.str ⟨s.toArray⟩),(1,.int .u8 (lo.toNat:Int)),(5,.int .i64 i)]) (pN lo.toNat) _ _ (λi b hi hl=>?_) ?_;·have hw:=cw i (by first|omega|(simp at hl;omega));obtain⟨_,rfl⟩:=aQ.1 hi;unfold pN;simp -implicitDefEqProofs [Bj,JJ,hl,hw];all_goals (repeat' split)<;>first|rfl|omega|(simp_all;done)|(simp_all;omega)|skip
 ·simp -implicitDefEqProofs [Bj,JJ]
def Ng(s:ah)(lo:UInt8)(hb:s.length<=9223372036854775807):ev LI TT 139 [.str ⟨s.toArray⟩,.int .u8 (lo.toNat:Int)]=some (.bool ((bT (pN lo.toNat) s)),[.dead,.dead]):=by
 rw[aF (b:=EU) (rs:=[.t 4]) (n:=2) rfl rfl];have u1:=Ua s lo hb;try simp at u1
 simp -implicitDefEqProofs [EU,u1];all_goals (repeat' split)<;>first|rfl|omega|(simp_all;done)|(simp_all;omega)|skip
end M
namespace M
open Go
variable [Lb]
end M
namespace M
open Go
variable [Lb]
def Nd(s:ah)(hb:s.length<=9223372036854775807):ev LI TT 141 [.str ⟨s.toArray⟩]=some (.str ⟨(jg s).toArray⟩,[.dead]):=by
 rw[aF (b:=EP) (rs:=[.t 2]) (n:=1) rfl rfl];have u1:=WC s hb;try simp at u1
 simp -implicitDefEqProofs [EP,u1];all_goals (repeat' split)<;>first|rfl|omega|(simp_all;done)|(simp_all;omega)|skip
def Hq(s:ah)(hb:s.length<=9223372036854775807):ev LI TT 91 [.str ⟨s.toArray⟩]=some (.bool ((ji s)),[.dead]):=by
 rw[aF (b:=uG) (rs:=[.t 2]) (n:=1) rfl rfl];unfold ji;have e32:(32:UInt8).toNat=32:=rfl;have u1:=Ng s 32 hb;try simp at u1
 have u2:=Nd s hb;try simp at u2
 by_cases g1:1<=(s.length:Int);rotate_left;·simp -implicitDefEqProofs [uG,u1,u2,eq_false g1]
 by_cases g2:(s.length:Int)<=60;rotate_left;·simp -implicitDefEqProofs [uG,u1,u2,eq_true g1,eq_false g2]
 by_cases g3:bT (pN 32) s=true;rotate_left;·simp -implicitDefEqProofs [uG,u1,u2,eq_true g1,eq_true g2,g3]
 simp -implicitDefEqProofs [uG,u1,u2,eq_true g1,eq_true g2,g3];all_goals (repeat' split)<;>first|rfl|omega|(simp_all;done)|(simp_all;omega)|skip
def Ht(s:ah)(hb:s.length<=9223372036854775807):ev LI TT 89 [.str ⟨s.toArray⟩]=some (.bool ((kO s)),[.dead]):=by
 rw[aF (b:=xC) (rs:=[.t 2]) (n:=1) rfl rfl];unfold kO;have e33:(33:UInt8).toNat=33:=rfl;have u1:=Ng s 33 hb;try simp at u1
 by_cases g1:1<=(s.length:Int);rotate_left;·simp -implicitDefEqProofs [xC,u1,eq_false g1]
 by_cases g2:(s.length:Int)<=60;rotate_left;·simp -implicitDefEqProofs [xC,u1,eq_true g1,eq_false g2]
 obtain⟨b,hb0⟩:∃b,s[0]?=some b:=⟨s[0]'(by omega),by simp⟩;by_cases Z6:(b.toNat:Int)=47;all_goals
 simp -implicitDefEqProofs [xC,u1,eq_true g1,eq_true g2,hb0,Z6];all_goals (repeat' split)<;>first|rfl|omega|(simp_all;done)|(simp_all;omega)|skip
@[simp] def ai2(t:Int):ev LI TT 27 [.int .i64 t]=some (.bool ((decide (0<=t/\t<=1000000))),[.dead]):=by rw[aF (b:=Fb) (rs:=[.t 2]) (n:=1) rfl rfl];simp -implicitDefEqProofs [Fb];all_goals (repeat' split)<;>first|rfl|omega|(simp_all;done)|(simp_all;omega)|skip
def Hj(n:Int):ev LI TT 12 [.int .i64 n]=some (.str ⟨(dZ n).toArray⟩,[.dead]):=by
 rw[aF (b:=AU) (rs:=[.t 2]) (n:=1) rfl rfl];unfold dZ;by_cases hn:0<=n/\n<=1000000;rotate_left
 ·have hf:(decide (0<=n) && decide (n<=1000000))=false:=by simp;omega
  simp -implicitDefEqProofs [AU,hn,hf]
 obtain⟨k,rfl⟩:∃k:Nat,n=k:=⟨n.toNat,by omega⟩;have u1:=tO k (by omega);try simp at u1
 simp -implicitDefEqProofs [AU,u1,hn];all_goals (repeat' split)<;>first|rfl|omega|(simp_all;done)|(simp_all;omega)|skip
end M
namespace M
open Go
variable [Lb]
def aeX(s:ah)(i:Nat)(h:i<s.length)(x:UInt8)(hx:x=xK s[i]):(dh (s.take i)++s.drop i).set i x=dh (s.take (i+1))++s.drop (i+1):=by
 subst hx;rw[LO _ _ (by simp[dh];omega),nq h];have:i - (dh (s.take i)).length=0:=by simp[dh];omega
 rw[this,yE h];simp only[aO,dh,kg,bq,jm,rA,gE,j9]
def RO(s:ah)(i:Nat)(h:i<s.length)(hx:xK s[i]=s[i]):dh (s.take i)++s.drop i=dh (s.take (i+1))++s.drop (i+1):=by rw[yE h,nq h];simp only[dh,hx,kg,bq,jm,rA,gE,j9]
def Xd(l:ah)(i:Nat)(x:Int)(b:UInt8)(hx:x=(b.toNat:Int)):(l.map eU).modify i (λe=>e.set 0 (X.int .u8 x))=(l.set i b).map eU:=by
 subst hx;apply gX;intro j;rw[vH,cS,cS,rC];by_cases h:i=j
 ·subst h;by_cases h2:i<l.length;·simp[h2]
  ·simp[h2,iL (Nat.le_of_not_lt h2)]
 ·simp only[h,gW];cases l[j]?<;>rfl
def TV(s:ah)(hb:s.length<=1073741824):aX (aA (ev LI TT) (aB TT) uB) [(3,.row .own 1 ((dh (s.take 0)++s.drop 0).map eU)),(6,.str ⟨s.toArray⟩),(8,.ref 3 []),(9,.int .i64 s.length),(10,.int .i64 0)]=some (.exit 0,[(3,.row .own 1 ((dh s).map eU)),(6,.str ⟨s.toArray⟩),(8,.ref 3 []),(9,.int .i64 s.length),(10,.int .i64 (s).length),(11,.bool false)]):=by
 refine ab9 (f:=aA (ev LI TT) (aB TT) uB) (s) (λi=>[(3,.row .own 1 ((dh (s.take i)++s.drop i).map eU)),(6,.str ⟨s.toArray⟩),(8,.ref 3 []),(9,.int .i64 s.length),(10,.int .i64 i)]) _ (λi b hi hl=>?_) ?_
 ·have hw:=cw i (by first|omega|(simp at hl;omega));obtain⟨_,rfl⟩:=aQ.1 hi;have hk:(dh (s.take i)++s.drop i).length=s.length:=by simp[dh];omega
  have hx:=s[i].toNat_lt;have hg:(dh (s.take i)++s.drop i)[i]?=some s[i]:=by rw[nr (by simp[dh];omega)];simp[dh,oh (LS hl)]
  have hg':∀h,(dh (s.take i)++s.drop i)[i]'h=s[i]:=λh=>by rw[cm h] at hg;exact gV hg
  generalize hq:dh (s.take i)++s.drop i=q at hk hg hg'⊢;have um:i<q.length:=by omega
  by_cases h1:65<=(s[i]).toNat;rotate_left
  ·have h1':¬(65:Int)<=(s[i]).toNat:=by omega
   have e:=RO s i hl (by unfold xK;rw[az (by omega)]);rw[hq] at e;simp -implicitDefEqProofs [uB,AQ,hl,hw,hg,hg',um,h1',<-e]
  by_cases h2:(s[i]).toNat<=90;rotate_left
  ·have h1':(65:Int)<=(s[i]).toNat:=by omega
   have Z4:90<((s[i]).toNat:Int):=by omega
   have mG:¬((s[i]).toNat:Int)<=90:=by omega
   have e:=RO s i hl (by unfold xK;rw[az (by omega)]);rw[hq] at e;simp -implicitDefEqProofs [uB,AQ,hl,hw,hg,hg',um,h1',mG,Z4,<-e]
  have h1':(65:Int)<=(s[i]).toNat:=by omega
  have mG:((s[i]).toNat:Int)<=90:=by omega
  have h3:=ace s[i] ⟨h1,h2⟩;have h4:IntKind.u8.wrap ((s[i]).toNat+32)=(s[i]).toNat+32:=ah6 (by omega) (by omega);have e:=aeX s i hl (s[i]+32) (by unfold xK;rw[aq ⟨h1,h2⟩]);rw[hq] at e;have e2:=Xd q i _ (s[i]+32) (show ((s[i]).toNat:Int)+32=_ by rw[h3];rfl);rw[e] at e2;simp -implicitDefEqProofs [uB,AQ,hl,hw,hg,hg',um,h1',mG,h4,e2];all_goals (repeat' split)<;>first|rfl|omega|(simp_all;done)|(simp_all;omega)|skip
 ·simp only[vw,L3,rB];simp -implicitDefEqProofs [uB,AQ]
def M1(s:ah)(hb:s.length<=1073741824):ev LI TT 143 [.str ⟨s.toArray⟩]=some (.str ⟨(dh s).toArray⟩,[.dead]):=by
 rw[aF (b:=Ey) (rs:=[.t 2]) (n:=1) rfl rfl];have hl:(dh s).length=s.length:=by simp[dh]
 have e0:dh (s.take 0)++s.drop 0=s:=by simp[dh]
 have u1:=TV s hb;try simp at u1
 simp -implicitDefEqProofs [Ey,u1,hl,rowAt,(by omega:s.length<=9223372036854775807)];all_goals (repeat' split)<;>first|rfl|omega|(simp_all;done)|(simp_all;omega)|skip
@[simp] def ai3(n:Int):ev LI TT 178 [.int .i64 n]=some (.int .i64 ((max 0 (min n 1000000))),[.dead]):=by rw[aF (b:=Fj) (rs:=[.t 2]) (n:=1) rfl rfl];simp -implicitDefEqProofs [Fj];(repeat' split)<;>omega
end M
namespace M
open Go
variable [Lb]
def BL(n:Int):(dZ n).length<=7:=by
 unfold dZ;split;·exact qd _ (by omega)
 ·simp
def Dz{β γ:Type}(go:γ->β->γ):∀(l:List β) (i:Nat) (g:γ),foldI (λ_ g b=>go g b) i l g=l.foldl go g
 |[],_,_=>rfl
 |b::l,i,g=>by rw[foldI,Dz go l,vG]
end M
namespace M
open Go
variable [Lb]
def uZ(w:ah):List ah:=if jg w≠[] then [jg w] else []
def ae5(w:ah):(uZ w).length<=1:=by unfold uZ;split<;>simp
def T5(s:ah)(ws:List ah)(hb:∀w∈ws,w.length<=1073741824)(hl0:ws.length<=1073741825):aX (aA (ev LI TT) (aB TT) xw) [(3,.row .own 1 (([]).map eS)),(8,.row .own 1 (ws.map eS)),(9,.int .i64 ws.length),(10,.int .i64 0)]=some (.exit 0,[(3,.row .own 1 ((((ws).flatMap uZ)).map eS)),(8,.row .own 1 (ws.map eS)),(9,.int .i64 ws.length),(10,.int .i64 (ws).length),(11,.bool false)]):=by
 refine qK (f:=aA (ev LI TT) (aB TT) xw) (ws) uZ (λi out=>[(3,.row .own 1 ((out).map eS)),(8,.row .own 1 (ws.map eS)),(9,.int .i64 ws.length),(10,.int .i64 i)]) (λout=>[(3,.row .own 1 ((out).map eS)),(8,.row .own 1 (ws.map eS)),(9,.int .i64 ws.length),(10,.int .i64 (ws).length),(11,.bool false)]) (λi b out hi hl hout=>?_) (λout hout=>?_)
 ·have hw:=cw i (by first|omega|(simp at hl;omega));obtain⟨_,rfl⟩:=aQ.1 hi;have hlo:out.length<=i:=by rw[hout];exact OJ uZ ae5 ws i
  have hlz:(out.length+1)*16<=140737488355328:=by omega
  have hc:=Nd ws[i] (by have:=hb _ (cU hl);omega);unfold uZ;by_cases ht:jg ws[i]=[];·simp -implicitDefEqProofs [xw,EK,hl,hw,hc,eq_true ht]
  simp -implicitDefEqProofs [xw,EK,hl,hw,hc,eq_false ht,cZ,hlz]
 ·simp -implicitDefEqProofs [xw,EK]
def Nc(s:ah)(hb:s.length<=1073741824):ev LI TT 142 [.str ⟨s.toArray⟩]=some (.row .own 1 ((lY s).map eS),[.dead]):=by
 rw[aF (b:=EL) (rs:=[.t 2]) (n:=1) rfl rfl];rw[ah3 s,show (λw=>if jg w≠[] then [jg w] else [])=uZ from rfl];have u1:=tP s 44 (by omega);try simp at u1
 have u2:=T5 s (ct 44 s) (λw hw=>by have:=yj 44 s w hw;omega) (by have:=RW 44 s;omega);try simp at u2
 simp -implicitDefEqProofs [EL,u1,u2];all_goals (repeat' split)<;>first|rfl|omega|(simp_all;done)|(simp_all;omega)|skip
def Uh(l:List ah)(hl0:l.length<=1073741824)(hb:∀w∈l,w.length<=1073741824):aX (aA (ev LI TT) (aB TT) Br) [(0,.row .af 1 (l.map eS)),(5,.row .af 1 (l.map eS)),(6,.int .i64 l.length),(7,.int .i64 0)]=if bT gD (l)=true then some (.exit 0,[(0,.row .af 1 (l.map eS)),(5,.row .af 1 (l.map eS)),(6,.int .i64 l.length),(7,.int .i64 (l).length),(8,.bool false)]) else some (.ret,[(2,.bool false)]):=by
 refine lE (f:=aA (ev LI TT) (aB TT) Br) (l) (λi=>[(0,.row .af 1 (l.map eS)),(5,.row .af 1 (l.map eS)),(6,.int .i64 l.length),(7,.int .i64 i)]) gD _ _ (λi b hi hl=>?_) ?_
 ·have hw:=cw i (by first|omega|(simp at hl;omega));obtain⟨_,rfl⟩:=aQ.1 hi;have u1:=Hp l[i] (by have:=hb _ (cU hl);omega);try simp at u1
  simp -implicitDefEqProofs [Br,JR,hl,hw,u1];all_goals (repeat' split)<;>first|rfl|omega|(simp_all;done)|(simp_all;omega)|skip
 ·simp -implicitDefEqProofs [Br,JR]
def Nk(l:List ah)(hl0:l.length<=1073741824)(hb:∀w∈l,w.length<=1073741824):ev LI TT 92 [.row .af 1 (l.map eS)]=some (.bool ((bT gD l && decide ((l.length:Int)<=4))),[.dead]):=by
 rw[aF (b:=Fh) (rs:=[.t 2]) (n:=1) rfl rfl];have u1:=Uh l hl0 hb;try simp at u1
 simp -implicitDefEqProofs [Fh,u1];all_goals (repeat' split)<;>first|rfl|omega|(simp_all;done)|(simp_all;omega)|skip
end M
namespace M
open Go
variable [Lb]
def V9(f:aH)(n:ah):ev LI TT 165 [.agg (aR f),.ptr .af [.str ⟨n.toArray⟩]]=some (.bool (decide (f.name=n)),[.dead,.dead]):=by rw[aF (b:=E4) (rs:=[.t 3]) (n:=2) rfl rfl];simp -implicitDefEqProofs [E4];all_goals (repeat' split)<;>first|rfl|omega|(simp_all;done)|(simp_all;omega)|skip
def Uo(fs:List aH)(n:ah)(hb:fs.length<=9223372036854775807):aX (aA (ev LI TT) (aB TT) Co) [(0,.row .af 2 (fs.map aR)),(1,.fn 165 [.ptr .af [.str ⟨n.toArray⟩]]),(7,.int .i64 fs.length),(8,.int .i64 0)]=(cO (λf=>decide (f.name=n)) 0 (fs)).elim (some (.exit 0,[(0,.row .af 2 (fs.map aR)),(1,.fn 165 [.ptr .af [.str ⟨n.toArray⟩]]),(7,.int .i64 fs.length),(8,.int .i64 (fs).length),(9,.bool false)])) λx=>some (.ret,(λ(i:Nat) b=>[(4,.int .i64 i)]) x.1 x.2):=by
 refine uN (f:=aA (ev LI TT) (aB TT) Co) (fs) (λi=>[(0,.row .af 2 (fs.map aR)),(1,.fn 165 [.ptr .af [.str ⟨n.toArray⟩]]),(7,.int .i64 fs.length),(8,.int .i64 i)]) (λf=>decide (f.name=n)) (λ(i:Nat) b=>[(4,.int .i64 i)]) _ (λi b hi hl=>?_) ?_;·have hw:=cw i (by first|omega|(simp at hl;omega));obtain⟨_,rfl⟩:=aQ.1 hi;have ho:aB TT 165=true:=rfl;have hf:=V9 fs[i] n;simp at hf;simp -implicitDefEqProofs [Co,Ls,hl,hw,ho,lD,hf]
 ·simp -implicitDefEqProofs [Co,Ls]
def Wt(fs:List aH)(n:ah)(hb:fs.length<=9223372036854775807):ev LI TT 164 [.row .af 2 (fs.map aR),.fn 165 [.ptr .af [.str ⟨n.toArray⟩]]]=some (.int .i64 (oy (kj fs n)),[.dead,.dead]):=by
 rw[aF (b:=Cp) (rs:=[.t 4]) (n:=2) rfl rfl];have h:=Uo fs n hb;rw[show cO (λf=>decide (f.name=n)) 0 fs=kj fs n from rfl] at h;simp at h;cases g:kj fs n with
 |none=>rw[g] at h;simp at h;simp -implicitDefEqProofs [Cp,h,oy]
 |some x=>
 rw[g] at h;simp at h;simp -implicitDefEqProofs [Cp,h,oy];all_goals (repeat' split)<;>first|rfl|omega|(simp_all;done)|(simp_all;omega)|skip
def Hr(fs:List aH)(n:ah)(hb:fs.length<=9223372036854775807):ev LI TT 140 [.row .af 2 (fs.map aR),.str ⟨n.toArray⟩]=some (.int .i64 (oy (kj fs n)),[.dead,.dead]):=by rw[aF (b:=E5) (rs:=[.t 4]) (n:=2) rfl rfl];have h:=Wt fs n hb;simp -implicitDefEqProofs [E5,h,gP,fB];all_goals (repeat' split)<;>first|rfl|omega|(simp_all;done)|(simp_all;omega)|skip
def nA(fs:List aH)(n:ah)(hb:fs.length<=9223372036854775807):ev LI TT 130 [.row .af 2 (fs.map aR),.str ⟨n.toArray⟩]=some (.aj [.str ⟨((dP fs n).getD []).toArray⟩,.bool (dP fs n).isSome],[.dead,.dead]):=by
 rw[aF (b:=AO) (rs:=[.t 4,.t 5]) (n:=2) rfl rfl];have h:=Hr fs n hb;unfold dP;cases g:kj fs n with
 |none=>rw[g] at h;simp[oy] at h;simp -implicitDefEqProofs [AO,h]
 |some x=>
 obtain⟨i,b⟩:=x;rw[g] at h;obtain⟨h1,h2,h3⟩:=rX g;simp at h2;simp[oy] at h;have hi:i<fs.length:=(aQ.1 h2).1;obtain⟨_,rfl⟩:=aQ.1 h2;simp -implicitDefEqProofs [AO,h,hi];all_goals (repeat' split)<;>first|rfl|omega|(simp_all;done)|(simp_all;omega)|skip
end M
namespace M
open Go
variable [Lb]
def Kv:(⟨#[99,111,110,116,101,110,116,45,108,101,110,103,116,104]⟩:ByteArray)=⟨fu.toArray⟩:=rfl
def TS(fs:List aH)(hb:wL aN fs<=1073741824):aX (aA (ev LI TT) (aB TT) qB) [(0,.row .af 2 (fs.map aR)),(5,.row .af 2 (fs.map aR)),(6,.int .i64 fs.length),(7,.int .i64 0)]=if bT (qi fs) (fs.zipIdx)=true then some (.exit 0,[(0,.row .af 2 (fs.map aR)),(5,.row .af 2 (fs.map aR)),(6,.int .i64 fs.length),(7,.int .i64 (fs.zipIdx).length),(8,.bool false)]) else some (.ret,[(2,.bool false)]):=by
 refine lE (f:=aA (ev LI TT) (aB TT) qB) (fs.zipIdx) (λi=>[(0,.row .af 2 (fs.map aR)),(5,.row .af 2 (fs.map aR)),(6,.int .i64 fs.length),(7,.int .i64 i)]) (qi fs) _ _ (λi b hi hl=>?_) ?_
 ·have hw:=cw i (by have:=bC (w:=aN) fs;simp at hl;omega);obtain⟨_,rfl⟩:=aQ.1 hi;simp only[Mj] at hl;have hz:fs.zipIdx[i]'(by simpa using hl)=(fs[i],i):=by simp
  have hm:=SH (cU hl);have hfl:=bC (w:=aN) fs;rw[hz];have u1:=Hp fs[i].name (by omega);try simp at u1
  have u2:=Hq fs[i].value (by omega);try simp at u2
  have u3:=Hr fs fs[i].name (by omega);try simp at u3
  by_cases g1:gD fs[i].name=true;rotate_left;·simp -implicitDefEqProofs [qB,uA,hl,hw,u1,u2,u3,qi,g1]
  by_cases g2:ji fs[i].value=true;rotate_left;·simp -implicitDefEqProofs [qB,uA,hl,hw,u1,u2,u3,qi,g1,g2]
  by_cases hcl:fs[i].name=fu;·simp -implicitDefEqProofs [qB,uA,hl,hw,u1,u2,u3,g1,g2,qi,Kv,eq_true hcl]
  by_cases g3:oy (kj fs fs[i].name)=i;rotate_left;·simp -implicitDefEqProofs [qB,uA,hl,hw,u1,u2,u3,g1,g2,qi,Kv,eq_false hcl,eq_false g3]
  simp -implicitDefEqProofs [qB,uA,hl,hw,u1,u2,u3,qi,g1,g2,Kv,eq_false hcl,eq_true g3];all_goals (repeat' split)<;>first|rfl|omega|(simp_all;done)|(simp_all;omega)|skip
 ·simp -implicitDefEqProofs [qB,uA]
def M0(fs:List aH)(hb:wL aN fs<=1073741824):ev LI TT 90 [.row .af 2 (fs.map aR)]=some (.bool ((mB fs)),[.dead]):=by
 rw[aF (b:=Et) (rs:=[.t 2]) (n:=1) rfl rfl];unfold mB;have hfl:=bC (w:=aN) fs;have u1:=TS fs hb;try simp at u1
 simp -implicitDefEqProofs [Et,u1];all_goals (repeat' split)<;>first|rfl|omega|(simp_all;done)|(simp_all;omega)|skip
def XG(fs:List aH)(i:Nat)(h:i<fs.length)(v:ah):(fs.map aR).modify i (λe=>e.set 1 (X.str ⟨v.toArray⟩))=(fs.set i ⟨fs[i].name,v⟩).map aR:=by
 apply gX;intro j;rw[vH,cS,cS,rC];by_cases hij:i=j;·subst hij;simp[h]
 ·simp only[hij,gW];cases fs[j]?<;>rfl
def Hl(fs:List aH)(n:ah)(v:ah)(hb:fs.length<=1073741824):ev LI TT 137 [.row .af 2 (fs.map aR),.str ⟨n.toArray⟩,.str ⟨v.toArray⟩]=some (.row .own 2 ((jb fs n v).map aR),[.dead,.dead,.dead]):=by
 rw[aF (b:=A7) (rs:=[.t 6]) (n:=3) rfl rfl];unfold jb;have hk2:(fs.length+1)*32<=140737488355328:=by omega
 have u1:=Hr fs n (by omega);try simp at u1
 have u2:=J3 fs hb;try simp at u2
 cases g:kj fs n with
 |none=>rw[g] at u1;simp[oy] at u1;simp -implicitDefEqProofs [A7,u1,u2,rowAt,hk2,cZ]
 |some x=>
 obtain⟨i,f⟩:=x;obtain⟨hi,rfl,_⟩:=GZ g;rw[g] at u1;simp[oy] at u1;simp -implicitDefEqProofs [A7,u1,u2,hk2,hi,rowAt,XG fs i hi v,-List.map_set];all_goals (repeat' split)<;>first|rfl|omega|(simp_all;done)|(simp_all;omega)|skip
def tM(r:aU)(hb:aL r<=1073741824):ev LI TT 66 [.agg (cF .af r)]=some (.bool ((eZ r)),[.dead]):=by
 rw[aF (b:=uC) (rs:=[.t 2]) (n:=1) rfl rfl];have hw:aL r=wL aN r.fields+r.body.length:=rfl;unfold eZ;have u1:=M0 r.fields (by omega);try simp at u1
 by_cases g1:100<=r.status;rotate_left;·simp -implicitDefEqProofs [uC,u1,eq_false g1]
 by_cases g2:r.status<=599;rotate_left;·simp -implicitDefEqProofs [uC,u1,eq_true g1,eq_false g2]
 by_cases g3:(r.body.length:Int)<=120;rotate_left;·simp -implicitDefEqProofs [uC,u1,eq_true g1,eq_true g2,eq_false g3]
 simp -implicitDefEqProofs [uC,u1,eq_true g1,eq_true g2,eq_true g3];all_goals (repeat' split)<;>first|rfl|omega|(simp_all;done)|(simp_all;omega)|skip
def oz(r:aU)(hb:r.fields.length<=1073741824):ev LI TT 21 [.agg (cF .af r)]=some (.agg (cF .own r),[.dead]):=by
 rw[aF (b:=E2) (rs:=[.c 2 3 true 47]) (n:=1) rfl rfl];have u1:=J3 r.fields hb;try simp at u1
 simp -implicitDefEqProofs [E2,u1];all_goals (repeat' split)<;>first|rfl|omega|(simp_all;done)|(simp_all;omega)|skip
end M
namespace M
open Go
variable [Lb]
def Lp(s:ah):(lY s).length<=s.length+1:=by unfold lY;have h1:=Mh (λw:ah=>decide (w≠[])) ((ct 44 s).map jg);have h2:=RW 44 s;simp only[cW] at h1;omega
def Gi(s:ah):∀w∈lY s,w.length<=s.length:=by intro w hw;unfold lY at hw;obtain⟨x,hx,rfl⟩:=aT.1 (List.mem_filter.1 hw).1;have h1:=yj 44 s x hx;have h2:=Sr x;omega
def T9(ws:List ah)(hl0:ws.length<=1073741825)(hb:∀w∈ws,w.length<=1073741824):aX (aA (ev LI TT) (aB TT) Bi) [(5,.row .own 1 (([]).map eS)),(14,.row .own 1 (ws.map eS)),(15,.int .i64 ws.length),(16,.int .i64 0)]=some (.exit 0,[(5,.row .own 1 ((((ws).flatMap (λw=>[dh w]))).map eS)),(14,.row .own 1 (ws.map eS)),(15,.int .i64 ws.length),(16,.int .i64 (ws).length),(17,.bool false)]):=by
 refine qK (f:=aA (ev LI TT) (aB TT) Bi) (ws) (λw=>[dh w]) (λi out=>[(5,.row .own 1 ((out).map eS)),(14,.row .own 1 (ws.map eS)),(15,.int .i64 ws.length),(16,.int .i64 i)]) (λout=>[(5,.row .own 1 ((out).map eS)),(14,.row .own 1 (ws.map eS)),(15,.int .i64 ws.length),(16,.int .i64 (ws).length),(17,.bool false)]) (λi b out hi hl hout=>?_) (λout hout=>?_)
 ·have hw:=cw i (by first|omega|(simp at hl;omega));obtain⟨_,rfl⟩:=aQ.1 hi;have hlo:out.length=i:=by rw[hout];exact wH _ _ _ (by omega)
  have hlz:(i+1)*16<=140737488355328:=by omega
  have u1:=M1 ws[i] (hb _ (cU hl));try simp at u1
  simp -implicitDefEqProofs [Bi,JI,hl,hw,u1,hlo,hlz,cZ]
 ·simp -implicitDefEqProofs [Bi,JI]
def C5(fs:List aH)(hb:wL aN fs<=1073741824):ev LI TT 94 [.row .af 2 (fs.map aR)]=some (.row .own 1 ((ey fs).map eS),[.dead]):=by
 rw[aF (b:=ES) (rs:=[.t 2]) (n:=1) rfl rfl];have hfl:=bC (w:=aN) fs;have hg:=ue fs kM;have u1:=nA fs kM (by omega);try simp at u1
 have u2:=Nc ((dP fs kM).getD []) (by omega);try simp at u2
 have u3:=T9 (lY ((dP fs kM).getD [])) (by have:=Lp ((dP fs kM).getD []);omega) (λw hw=>by have:=Gi _ w hw;omega);try simp at u3
 rw[HY,show (lY ((dP fs kM).getD [])).map dh=ey fs from rfl] at u3;simp -implicitDefEqProofs [ES,u1,u2,u3];all_goals (repeat' split)<;>first|rfl|omega|(simp_all;done)|(simp_all;omega)|skip
def Lm(fs:List aH):(ey fs).length<=wL aN fs+1:=by have h1:=Lp ((dP fs kM).getD []);have h2:=ue fs kM;simp[ey];omega
def T4(r:aU)(hb:r.fields.length<=1073741824):aX (aA (ev LI TT) (aB TT) sK) [(1,.ptr .own (cF .af r)),(2,.ptr .own [.int .i64 0,.row .own 2 [],.str ⟨#[]⟩]),(3,.ptr .own [.int .i64 304,.row .own 2 (([]).map aR),.str ⟨#[]⟩]),(7,.ai 1 [] 0 1),(8,.row .af 2 (r.fields.map aR)),(9,.int .i64 r.fields.length),(10,.int .i64 0)]=some (.exit 0,[(1,.ptr .own (cF .af r)),(2,.ptr .own [.int .i64 0,.row .own 2 [],.str ⟨#[]⟩]),(3,.ptr .own [.int .i64 304,.row .own 2 ((((r.fields).flatMap (λf=>if jE f=true then [f] else []))).map aR),.str ⟨#[]⟩]),(7,.ai 1 [] 0 1),(8,.row .af 2 (r.fields.map aR)),(9,.int .i64 r.fields.length),(10,.int .i64 (r.fields).length),(11,.bool false)]):=by
 refine qK (f:=aA (ev LI TT) (aB TT) sK) (r.fields) (λf=>if jE f=true then [f] else []) (λi out=>[(1,.ptr .own (cF .af r)),(2,.ptr .own [.int .i64 0,.row .own 2 [],.str ⟨#[]⟩]),(3,.ptr .own [.int .i64 304,.row .own 2 ((out).map aR),.str ⟨#[]⟩]),(7,.ai 1 [] 0 1),(8,.row .af 2 (r.fields.map aR)),(9,.int .i64 r.fields.length),(10,.int .i64 i)]) (λout=>[(1,.ptr .own (cF .af r)),(2,.ptr .own [.int .i64 0,.row .own 2 [],.str ⟨#[]⟩]),(3,.ptr .own [.int .i64 304,.row .own 2 ((out).map aR),.str ⟨#[]⟩]),(7,.ai 1 [] 0 1),(8,.row .af 2 (r.fields.map aR)),(9,.int .i64 r.fields.length),(10,.int .i64 (r.fields).length),(11,.bool false)]) (λi b out hi hl hout=>?_) (λout hout=>?_)
 ·have hw:=cw i (by first|omega|(simp at hl;omega));obtain⟨_,rfl⟩:=aQ.1 hi;have hlo:out.length<=i:=by rw[hout];exact OJ _ (λf=>by split<;>simp) _ _
  have hlz:(out.length+1)*32<=140737488355328:=by omega
  unfold jE;have t1:(⟨#[101,116,97,103]⟩:ByteArray)=⟨qP.toArray⟩:=rfl;have t2:(⟨#[118,97,114,121]⟩:ByteArray)=⟨kM.toArray⟩:=rfl;have t3:(⟨#[99,97,99,104,101,45,99,111,110,116,114,111,108]⟩:ByteArray)=⟨qO.toArray⟩:=rfl;by_cases g1:(r.fields[i]).name=qP;·simp -implicitDefEqProofs [sK,xu,hl,hw,hlo,hlz,cZ,t1,t2,t3,eq_true g1]
  by_cases g2:(r.fields[i]).name=kM;·simp -implicitDefEqProofs [sK,xu,hl,hw,hlo,hlz,cZ,t1,t2,t3,eq_false g1,eq_true g2]
  by_cases g3:(r.fields[i]).name=qO;·simp -implicitDefEqProofs [sK,xu,hl,hw,hlo,hlz,cZ,t1,t2,t3,eq_false g1,eq_false g2,eq_true g3]
  simp -implicitDefEqProofs [sK,xu,hl,hw,hlo,hlz,cZ,t1,t2,t3,eq_false g1,eq_false g2,eq_false g3];all_goals (repeat' split)<;>first|rfl|omega|(simp_all;done)|(simp_all;omega)|skip
 ·simp -implicitDefEqProofs [sK,xu]
def V0(r:aU)(hb:r.fields.length<=1073741824):ev LI TT 136 [.agg (cF .af r)]=some (.agg (cF .own (qX r)),[.dead]):=by
 rw[aF (b:=EJ) (rs:=[.c 2 3 true 47]) (n:=1) rfl rfl];have e:r.fields.flatMap (λf=>if jE f=true then [f] else [])=r.fields.filter jE:=by generalize r.fields=l;induction l with|nil=>rfl|cons a l ih=>simp only[jk,CF,ih];split<;>simp
 have u1:=T4 r hb;try simp at u1
 simp -implicitDefEqProofs [EJ,u1,qX,e];all_goals (repeat' split)<;>first|rfl|omega|(simp_all;done)|(simp_all;omega)|skip
end M
namespace M
open Go
variable [Lb]
def Un(ps:List (ah×ah))(hb:ps.length<=9223372036854775807):aX (aA (ev LI TT) (aB TT) Cn) [(0,.row .af 1 (ps.map λx=>eS x.1)),(1,.row .af 1 (ps.map λx=>eS x.2)),(12,.int .i64 ps.length),(13,.int .i64 0)]=if bT oD (ps)=true then some (.exit 0,[(0,.row .af 1 (ps.map λx=>eS x.1)),(1,.row .af 1 (ps.map λx=>eS x.2)),(12,.int .i64 ps.length),(13,.int .i64 ps.length),(14,.bool false)]) else some (.ret,[(4,.bool false)]):=by
 refine lE (f:=aA (ev LI TT) (aB TT) Cn) (ps) (λi=>[(0,.row .af 1 (ps.map λx=>eS x.1)),(1,.row .af 1 (ps.map λx=>eS x.2)),(12,.int .i64 ps.length),(13,.int .i64 i)]) oD _ _ (λi b hi hl=>?_) ?_;·have hw:=cw i (by first|omega|(simp at hl;omega));obtain⟨_,rfl⟩:=aQ.1 hi;simp -implicitDefEqProofs [Cn,Lr,hl,hw,oD];first|done|(split<;>simp_all)
 ·simp -implicitDefEqProofs [Cn,Lr]
def yY(a b:List ah)(hb:a.length<=9223372036854775807):ev LI TT 93 [.row .af 1 (a.map eS),.row .af 1 (b.map eS)]=some (.bool (decide (a=b)),[.dead,.dead]):=by
 rw[aF (b:=Gm) (rs:=[.t 4]) (n:=2) rfl rfl];simp -implicitDefEqProofs [Gm];by_cases h:a.length=b.length;·obtain⟨ps,rfl,rfl⟩:=Mo h;have h1:=Un ps (by simpa using hb);have h2:=GS ps;simp at h1;cases h3:bT oD ps<;>rw[h3] at h1 h2<;>simp[h1,CE,<-h2]
 ·have:¬a=b:=λe=>h (by rw[e]);simp[this];omega
def VO(q:Rq)(fs:List aH)(h1:q.fields.length<=1073741824)(h2:fs.length<=1073741824):ev LI TT 135 [.agg (dy .af q),.row .af 2 (fs.map aR)]=some (.bool ((yf q fs)),[.dead,.dead]):=by
 rw[aF (b:=xl) (rs:=[.t 4]) (n:=2) rfl rfl];unfold yf;cases e1:dP q.fields xU with
 |none=>have u1:=nA q.fields xU (by omega);have u2:=nA fs qP (by omega);rw[e1] at u1;simp at u1 u2;simp -implicitDefEqProofs [xl,u1,u2];try (split<;>simp_all)
 |some a=>
 cases e2:dP fs qP with
 |none=>have u1:=nA q.fields xU (by omega);have u2:=nA fs qP (by omega);rw[e1] at u1;rw[e2] at u2;simp at u1 u2;simp -implicitDefEqProofs [xl,u1,u2]
 |some b=>
 have u1:=nA q.fields xU (by omega);try simp at u1
 have u2:=nA fs qP (by omega);try simp at u2
 rw[e1] at u1;rw[e2] at u2;simp at u1 u2;simp -implicitDefEqProofs [xl,u1,u2,eq_comm (a:=b)];all_goals (repeat' split)<;>first|rfl|omega|(simp_all;done)|(simp_all;omega)|skip
def VM(x:Int)(y:Int):ev LI TT 160 [.int .i64 x,.int .i64 y]=some (.int .i64 ((plus x y)),[.dead,.dead]):=by rw[aF (b:=EA) (rs:=[.t 4]) (n:=2) rfl rfl];unfold plus within;have w:=dN (n:=max 0 (min x 1000000)+max 0 (min y 1000000)) (by omega) (by omega);simp -implicitDefEqProofs [EA,w];try omega
def Wf(t:Int)(now:Int)(h1:bI t)(h2:bI now):ev LI TT 161 [.int .i64 t,.int .i64 now]=some (.int .i64 ((since t now)),[.dead,.dead]):=by
 rw[aF (b:=xD) (rs:=[.t 4]) (n:=2) rfl rfl];obtain⟨a1,a2⟩:=h1;obtain⟨b1,b2⟩:=h2;unfold since;by_cases g1:now<=t;·simp -implicitDefEqProofs [xD,g1]
 by_cases g2:now - t<=9223372036854775807
 ·have w2:=dN (n:=now - t) (by omega) (by omega);have w3:¬now - t<0:=by omega
  simp -implicitDefEqProofs [xD,g1,w2,w3];(repeat' split)<;>omega
 have w4:IntKind.i64.wrap (now - t)<0:=by rw[IntKind.wrap_i64];omega
 simp -implicitDefEqProofs [xD,g1,w4];(repeat' split)<;>omega
def MR(fs:List aH)(t:Int)(now:Int)(hb:wL aN fs<=1073741824)(h1:bI t)(h2:bI now):ev LI TT 132 [.row .af 2 (fs.map aR),.int .i64 t,.int .i64 now]=some (.int .i64 ((jL fs t now)),[.dead,.dead,.dead]):=by
 rw[aF (b:=wX) (rs:=[.t 6]) (n:=3) rfl rfl];have hfl:=bC (w:=aN) fs;have hg:=ue fs jC;have u1:=nA fs jC (by omega);have u2:=tL ((dP fs jC).getD []) (by omega);have u3:=Wf t now h1 h2;have u4:=VM (GP fs) (since t now);try simp at u3 u4
 unfold jL;unfold GP at u4⊢;cases e1:dP fs jC with
 |none=>
  rw[e1] at u1 u2 u4;have e0:cy []=none:=by simp[cy,td,HI]
  simp[e0] at u1 u2 u4;simp -implicitDefEqProofs [wX,u1,u2,u3,u4]
 |some v=>
 rw[e1] at u1 u2 u4;cases e2:cy v with
 |none=>simp[e2] at u1 u2 u4;simp -implicitDefEqProofs [wX,u1,u2,u3,u4,e2]
 |some n=>
 simp[e2] at u1 u2 u4;simp -implicitDefEqProofs [wX,u1,u2,u3,u4,e2];all_goals (repeat' split)<;>first|rfl|omega|(simp_all;done)|(simp_all;omega)|skip
end M
namespace M
open Go
variable [Lb]
def TX(o:Ob)(hb:wL wS o.values<=1073741824):aX (aA (ev LI TT) (aB TT) AZ) [(1,.ptr .own (cD .af o)),(5,.ai 1 [] 0 2),(6,.row .af 1 (o.values.map eS)),(7,.int .i64 o.values.length),(8,.int .i64 0)]=if bT ji (o.values)=true then some (.exit 0,[(1,.ptr .own (cD .af o)),(5,.ai 1 [] 0 2),(6,.row .af 1 (o.values.map eS)),(7,.int .i64 o.values.length),(8,.int .i64 (o.values).length),(9,.bool false)]) else some (.ret,[(2,.bool false)]):=by
 refine lE (f:=aA (ev LI TT) (aB TT) AZ) (o.values) (λi=>[(1,.ptr .own (cD .af o)),(5,.ai 1 [] 0 2),(6,.row .af 1 (o.values.map eS)),(7,.int .i64 o.values.length),(8,.int .i64 i)]) ji _ _ (λi b hi hl=>?_) ?_
 ·have hw:=cw i (by have:=bC (w:=wS) o.values;omega);obtain⟨_,rfl⟩:=aQ.1 hi;have hm:=Ln (cU hl);have u1:=Hq o.values[i] (by omega);try simp at u1
  simp -implicitDefEqProofs [AZ,Jr,hl,hw,u1];all_goals (repeat' split)<;>first|rfl|omega|(simp_all;done)|(simp_all;omega)|skip
 ·simp -implicitDefEqProofs [AZ,Jr]
def vX(o:Ob)(hb:aZ o<=1073741824):ev LI TT 51 [.agg (cD .af o)]=some (.bool ((dJ o)),[.dead]):=by
 rw[aF (b:=mO) (rs:=[.t 2]) (n:=1) rfl rfl];have hw:aZ o=o.path.length+wL wS o.names+wL wS o.values+aL o.resp:=rfl;have dW:aL o.resp=wL aN o.resp.fields+o.resp.body.length:=rfl;have hn:=bC (w:=wS) o.names;have hv:=bC (w:=wS) o.values;have hvl:=Lm o.resp.fields;unfold dJ o9;have u1:=tM o.resp (by omega);try simp at u1
 have u2:=Ht o.path (by omega);try simp at u2
 have u3:=Nk o.names (by omega) (λw hw=>by have:=Ln hw;omega);try simp at u3
 have u4:=C5 o.resp.fields (by omega);try simp at u4
 have u5:=yY o.names (ey o.resp.fields) (by omega);try simp at u5
 have u6:=TX o (by omega);try simp at u6
 by_cases g1:bT ji o.values=true;rotate_left;·simp -implicitDefEqProofs [mO,u1,u2,u3,u4,u5,u6,g1]
 by_cases g2:kO o.path=true;rotate_left;·simp -implicitDefEqProofs [mO,u1,u2,u3,u4,u5,u6,g1,g2]
 by_cases g3:0<=o.t;rotate_left;·simp -implicitDefEqProofs [mO,u1,u2,u3,u4,u5,u6,g1,g2,eq_false g3]
 by_cases g4:o.t<=1000000;rotate_left;·simp -implicitDefEqProofs [mO,u1,u2,u3,u4,u5,u6,g1,g2,eq_true g3,eq_false g4]
 by_cases g8:o.values.length=o.names.length;rotate_left
 ·have wJ:¬(o.values.length:Int)=o.names.length:=by omega
  simp -implicitDefEqProofs [mO,u1,u2,u3,u4,u5,u6,g1,g2,eq_true g3,eq_true g4,eq_false g8,eq_false wJ]
 have wJ:(o.values.length:Int)=o.names.length:=by omega
 by_cases h5:bT gD o.names=true;rotate_left;·simp -implicitDefEqProofs [mO,u1,u2,u3,u4,u5,u6,g1,g2,eq_true g3,eq_true g4,eq_true g8,eq_true wJ,h5]
 by_cases h6:(o.names.length:Int)<=4;rotate_left;·simp -implicitDefEqProofs [mO,u1,u2,u3,u4,u5,u6,g1,g2,eq_true g3,eq_true g4,eq_true g8,eq_true wJ,h5,eq_false h6]
 by_cases h7:eZ o.resp=true;rotate_left;·simp -implicitDefEqProofs [mO,u1,u2,u3,u4,u5,u6,g1,g2,eq_true g3,eq_true g4,eq_true g8,eq_true wJ,h5,eq_true h6,h7]
 simp -implicitDefEqProofs [mO,u1,u2,u3,u4,u5,u6,g1,g2,eq_true g3,eq_true g4,eq_true g8,eq_true wJ,h5,eq_true h6,h7];all_goals (repeat' split)<;>first|rfl|omega|(simp_all;done)|(simp_all;omega)|skip
def C0(b:Bn)(hb:bK b<=1073741824):ev LI TT 53 [.agg (dH b)]=some (.bool ((eT b)),[.dead]):=by
 rw[aF (b:=qu) (rs:=[.t 2]) (n:=1) rfl rfl];have hw:bK b=b.a.length+b.b.length:=rfl;unfold eT;have u1:=Ht b.a (by omega);try simp at u1
 have u2:=Hp b.a (by omega);try simp at u2
 have u3:=Hq b.b (by omega);try simp at u3
 by_cases g1:0<=b.t;rotate_left;·simp -implicitDefEqProofs [qu,u1,u2,u3,eq_false g1]
 by_cases g2:b.t<=1000000;rotate_left;·simp -implicitDefEqProofs [qu,u1,u2,u3,eq_true g1,eq_false g2]
 by_cases h1:b.kind=1;·by_cases h2:kO b.a=true<;>simp -implicitDefEqProofs [qu,u1,u2,u3,eq_true g1,eq_true g2,h1,h2]
 by_cases h2:b.kind=2;·by_cases h3:kO b.a=true<;>simp -implicitDefEqProofs [qu,u1,u2,u3,eq_true g1,eq_true g2,h2,h3]
 by_cases h3:b.kind=3;·by_cases h4:gD b.a=true<;>simp -implicitDefEqProofs [qu,u1,u2,u3,eq_true g1,eq_true g2,h3,h4]
 simp -implicitDefEqProofs [qu,u1,u2,u3,eq_true g1,eq_true g2,h1,h2,h3];all_goals (repeat' split)<;>first|rfl|omega|(simp_all;done)|(simp_all;omega)|skip
@[simp] def ai0(t:Int):ev LI TT 98 [.int .i64 t]=some (.bool ((decide (0<=t/\t<=19))),[.dead]):=by rw[aF (b:=E9) (rs:=[.t 2]) (n:=1) rfl rfl];simp -implicitDefEqProofs [E9];all_goals (repeat' split)<;>first|rfl|omega|(simp_all;done)|(simp_all;omega)|skip
@[simp] def ai1(t:Int):ev LI TT 54 [.int .i64 t]=some (.bool ((decide (5<=t/\t<=19))),[.dead]):=by rw[aF (b:=Fa) (rs:=[.t 2]) (n:=1) rfl rfl];simp -implicitDefEqProofs [Fa];all_goals (repeat' split)<;>first|rfl|omega|(simp_all;done)|(simp_all;omega)|skip
def TP(d:bZ)(hb:d.pending.length<=9223372036854775807):aX (aA (ev LI TT) (aB TT) AL) [(1,.ptr .own (gL .af d)),(5,.ai 1 [] 0 1),(6,.row .af 2 (d.pending.map eW)),(7,.int .i64 d.pending.length),(8,.int .i64 0)]=if bT uU (d.pending)=true then some (.exit 0,[(1,.ptr .own (gL .af d)),(5,.ai 1 [] 0 1),(6,.row .af 2 (d.pending.map eW)),(7,.int .i64 d.pending.length),(8,.int .i64 (d.pending).length),(9,.bool false)]) else some (.ret,[(2,.bool false)]):=by
 refine lE (f:=aA (ev LI TT) (aB TT) AL) (d.pending) (λi=>[(1,.ptr .own (gL .af d)),(5,.ai 1 [] 0 1),(6,.row .af 2 (d.pending.map eW)),(7,.int .i64 d.pending.length),(8,.int .i64 i)]) uU _ _ (λi b hi hl=>?_) ?_;·have hw:=cw i (by first|omega|(simp at hl;omega));obtain⟨_,rfl⟩:=aQ.1 hi;simp -implicitDefEqProofs [AL,Jm,hl,hw,uU];all_goals (repeat' split)<;>first|rfl|omega|(simp_all;done)|(simp_all;omega)|skip
 ·simp -implicitDefEqProofs [AL,Jm]
def MY(d:bZ)(hb:d.pending.length<=9223372036854775807):ev LI TT 55 [.agg (gL .af d)]=some (.bool ((fA d)),[.dead]):=by
 rw[aF (b:=Ep) (rs:=[.t 2]) (n:=1) rfl rfl];unfold fA;have u1:=TP d hb;try simp at u1
 simp -implicitDefEqProofs [Ep,u1];all_goals (repeat' split)<;>first|rfl|omega|(simp_all;done)|(simp_all;omega)|skip
end M
namespace M
open Go
variable [Lb]
end M
namespace M
open Go
variable [Lb]
def VZ(x k:Kp):ev LI TT 99 [.agg (av .af x),.ptr .af (av .af k)]=some (.bool (decide (x.at_=k.at_)),[.dead,.dead]):=by rw[aF (b:=EH) (rs:=[.t 3]) (n:=2) rfl rfl];simp -implicitDefEqProofs [EH];all_goals (repeat' split)<;>first|rfl|omega|(simp_all;done)|(simp_all;omega)|skip
def Up(l:List Kp)(k:Kp)(gf:Nat)(p:Kp->Bool)(ho:aB TT gf=true)(hf:∀x∈l,ev LI TT gf [.agg (av .af x),.ptr .af (av .af k)]=some (.bool (p x),[.dead,.dead]))(hb:l.length<=9223372036854775807):aX (aA (ev LI TT) (aB TT) lZ) [(0,.row .af 9 (l.map (av .af))),(1,.fn gf [.ptr .af (av .af k)]),(7,.int .i64 l.length),(8,.int .i64 0)]=(cO p 0 (l)).elim (some (.exit 0,[(0,.row .af 9 (l.map (av .af))),(1,.fn gf [.ptr .af (av .af k)]),(7,.int .i64 l.length),(8,.int .i64 (l).length),(9,.bool false)])) λx=>some (.ret,(λ(i:Nat) b=>[(4,.int .i64 i)]) x.1 x.2):=by
 refine uN (f:=aA (ev LI TT) (aB TT) lZ) (l) (λi=>[(0,.row .af 9 (l.map (av .af))),(1,.fn gf [.ptr .af (av .af k)]),(7,.int .i64 l.length),(8,.int .i64 i)]) p (λ(i:Nat) b=>[(4,.int .i64 i)]) _ (λi b hi hl=>?_) ?_
 ·have hw:=cw i (by first|omega|(simp at hl;omega));obtain⟨_,rfl⟩:=aQ.1 hi;have u1:=hf l[i] (cU hl);try simp at u1
  simp -implicitDefEqProofs [lZ,vp,hl,hw,u1,ho,lD];all_goals (repeat' split)<;>first|rfl|omega|(simp_all;done)|(simp_all;omega)|skip
 ·simp -implicitDefEqProofs [lZ,vp]
def Wu(l:List Kp)(k:Kp)(gf:Nat)(p:Kp->Bool)(ho:aB TT gf=true)(hf:∀x∈l,ev LI TT gf [.agg (av .af x),.ptr .af (av .af k)]=some (.bool (p x),[.dead,.dead]))(hb:l.length<=9223372036854775807):ev LI TT 125 [.row .af 9 (l.map (av .af)),.fn gf [.ptr .af (av .af k)]]=some (.int .i64 ((cO p 0 l).elim (-1) λx=>(x.1:Int)),[.dead,.dead]):=by
 rw[aF (b:=oa) (rs:=[.t 4]) (n:=2) rfl rfl];have u1:=Up l k gf p ho hf hb;try simp at u1
 cases g:cO p 0 l with
 |none=>rw[g] at u1;simp at u1;simp -implicitDefEqProofs [oa,u1]
 |some x=>
 rw[g] at u1;simp at u1;simp -implicitDefEqProofs [oa,u1];all_goals (repeat' split)<;>first|rfl|omega|(simp_all;done)|(simp_all;omega)|skip
def Nn(l:List Kp)(k:Kp)(gf:Nat)(p:Kp->Bool)(ho:aB TT gf=true)(hf:∀x∈l,ev LI TT gf [.agg (av .af x),.ptr .af (av .af k)]=some (.bool (p x),[.dead,.dead]))(hb:l.length<=9223372036854775807):ev LI TT 75 [.row .af 9 (l.map (av .af)),.fn gf [.ptr .af (av .af k)]]=some (.bool (!bT (λx=> !p x) l),[.dead,.dead]):=by
 rw[aF (b:=Ck) (rs:=[.t 4]) (n:=2) rfl rfl];have u1:=Wu l k gf p ho hf hb;try simp at u1
 rw[<-OD p l 0];cases g:cO p 0 l with
 |none=>rw[g] at u1;simp at u1;simp -implicitDefEqProofs [Ck,u1]
 |some x=>
 rw[g] at u1;simp at u1;simp -implicitDefEqProofs [Ck,u1];all_goals (repeat' split)<;>first|rfl|omega|(simp_all;done)|(simp_all;omega)|skip
def Ui(s:Sh)(hb:cR s<=1073741824):∃sl,aX (aA (ev LI TT) (aB TT) nS) [(0,.ptr .af (bH .af s)),(3,.int .i64 0),(7,.ptr .af (bH .af s)),(8,.ptr .af (bH .af s)),(9,.ptr .af ((bH .af s).drop 2)),(10,.row .af 9 (s.aG.map (av .af))),(11,.int .i64 s.aG.length),(12,.int .i64 0)]=if BO s.seq s.aG=true then some (.exit 0,sl) else some (.ret,[(2,.bool false)]):=by
 have jz:cR s=dA s.bp+wL dm s.aG+wL bK s.aW:=rfl;have hlen:=bC (w:=dm) s.aG;refine⟨_,lE (f:=aA (ev LI TT) (aB TT) nS) s.aG.zipIdx (λi=>[(0,.ptr .af (bH .af s)),(3,.int .i64 (sX s.aG i)),(7,.ptr .af (bH .af s)),(8,.ptr .af (bH .af s)),(9,.ptr .af ((bH .af s).drop 2)),(10,.row .af 9 (s.aG.map (av .af))),(11,.int .i64 s.aG.length),(12,.int .i64 i)]) (Fu s.seq s.aG) [(2,.bool false)] [(0,.ptr .af (bH .af s)),(3,.int .i64 (sX s.aG s.aG.length)),(7,.ptr .af (bH .af s)),(8,.ptr .af (bH .af s)),(9,.ptr .af ((bH .af s).drop 2)),(10,.row .af 9 (s.aG.map (av .af))),(11,.int .i64 s.aG.length),(12,.int .i64 s.aG.length),(13,.bool false)] (λi b hi hl=>?_) ?_⟩
 ·simp only[Mj] at hl;have hw:=cw i (by omega);obtain⟨_,rfl⟩:=aQ.1 hi;have hz:s.aG.zipIdx[i]'(by simpa using hl)=(s.aG[i],i):=by simp
  have hm:=yz (cU hl);have hp:=ad0 s.aG i hl;rw[hz];have hs:dS []=true:=rfl;have u1:=vX s.aG[i].obj (by omega);have u2:=Nn (s.aG.take i) s.aG[i] 99 (λx=>decide (x.at_=(s.aG[i]).at_)) rfl (λx _=>VZ x s.aG[i]) (by simp;omega);have hle:(i:Int)<=s.aG.length:=by omega
  have hle2:i<=s.aG.length:=by omega
  simp at u1 u2;unfold Fu;by_cases g1:dJ (s.aG[i]).obj=true;rotate_left;·simp -implicitDefEqProofs [nS,qF,hl,hw,hle,hle2,gP,fB,eY,u1,u2,g1]
  by_cases g2:5<=(s.aG[i]).at_;rotate_left;·simp -implicitDefEqProofs [nS,qF,hl,hw,hle,hle2,gP,fB,eY,u1,u2,g1,eq_false g2]
  by_cases g3:(s.aG[i]).at_<=19;rotate_left;·simp -implicitDefEqProofs [nS,qF,hl,hw,hle,hle2,gP,fB,eY,u1,u2,g1,eq_true g2,eq_false g3]
  by_cases g4:bT (λy:Kp=> !decide (y.at_=(s.aG[i]).at_)) (s.aG.take i)=true;rotate_left;·simp -implicitDefEqProofs [nS,qF,hl,hw,hle,hle2,gP,fB,eY,u1,u2,g1,eq_true g2,eq_true g3,g4]
  by_cases g5:sX s.aG i<(s.aG[i]).seq;rotate_left
  ·have DE:(s.aG[i]).seq<=sX s.aG i:=by omega
   simp -implicitDefEqProofs [nS,qF,hl,hw,hle,hle2,gP,fB,eY,u1,u2,g1,eq_true g2,eq_true g3,g4,eq_false g5,eq_true DE]
  have DE:¬(s.aG[i]).seq<=sX s.aG i:=by omega
  by_cases g6:(s.aG[i]).seq<s.seq;rotate_left
  ·have Ie:s.seq<=(s.aG[i]).seq:=by omega
   simp -implicitDefEqProofs [nS,qF,hl,hw,hle,hle2,gP,fB,eY,u1,u2,g1,eq_true g2,eq_true g3,g4,eq_true g5,eq_false DE,eq_false g6,eq_true Ie]
  have Ie:¬s.seq<=(s.aG[i]).seq:=by omega
  simp -implicitDefEqProofs [nS,qF,hl,hw,hle,hle2,gP,fB,eY,u1,u2,g1,eq_true g2,eq_true g3,g4,eq_true g5,eq_false DE,eq_true g6,eq_false Ie,hp]
 ·simp -implicitDefEqProofs [nS,qF]
def VY(s:Sh)(hb:cR s<=1073741824):ev LI TT 56 [.ptr .af (bH .af s)]=some (.bool (BO s.seq s.aG),[.dead]):=by rw[aF (b:=EI) (rs:=[.t 2]) (n:=1) rfl rfl];obtain⟨sl,u1⟩:=Ui s hb;simp at u1;simp -implicitDefEqProofs [EI,u1];all_goals (repeat' split)<;>first|rfl|omega|(simp_all;done)|(simp_all;omega)|skip
def T3(s:Sh)(hb:cR s<=1073741824):aX (aA (ev LI TT) (aB TT) Bb) [(1,.ptr .own (bH .af s)),(5,.ai 1 [] 0 3),(6,.row .af 4 (s.aW.map dH)),(7,.int .i64 s.aW.length),(8,.int .i64 0)]=if bT eT (s.aW)=true then some (.exit 0,[(1,.ptr .own (bH .af s)),(5,.ai 1 [] 0 3),(6,.row .af 4 (s.aW.map dH)),(7,.int .i64 s.aW.length),(8,.int .i64 (s.aW).length),(9,.bool false)]) else some (.ret,[(2,.bool false)]):=by
 refine lE (f:=aA (ev LI TT) (aB TT) Bb) (s.aW) (λi=>[(1,.ptr .own (bH .af s)),(5,.ai 1 [] 0 3),(6,.row .af 4 (s.aW.map dH)),(7,.int .i64 s.aW.length),(8,.int .i64 i)]) eT _ _ (λi b hi hl=>?_) ?_
 ·have hw:=cw i (by have jz:cR s=dA s.bp+wL dm s.aG+wL bK s.aW:=rfl;have:=bC (w:=bK) s.aW;omega);obtain⟨_,rfl⟩:=aQ.1 hi;have jz:cR s=dA s.bp+wL dm s.aG+wL bK s.aW:=rfl;have hm:=SF (cU hl);have u1:=C0 s.aW[i] (by omega);try simp at u1
  simp -implicitDefEqProofs [Bb,Jv,hl,hw,u1];all_goals (repeat' split)<;>first|rfl|omega|(simp_all;done)|(simp_all;omega)|skip
 ·simp -implicitDefEqProofs [Bb,Jv]
def VS(s:Sh)(hb:cR s<=1073741824):ev LI TT 29 [.agg (bH .af s)]=some (.bool ((gR s)),[.dead]):=by
 rw[aF (b:=nR) (rs:=[.t 2]) (n:=1) rfl rfl];have jz:cR s=dA s.bp+wL dm s.aG+wL bK s.aW:=rfl;have abu:dA s.bp=wL wS s.bp.cells+wL e9 s.bp.pending:=rfl;have hlen:=bC (w:=e9) s.bp.pending;unfold gR;have u1:=MY s.bp (by omega);try simp at u1
 have u2:=T3 s hb;try simp at u2
 have u3:=VY s hb;try simp at u3
 by_cases g1:bT eT s.aW=true;rotate_left;·simp -implicitDefEqProofs [nR,u1,u2,u3,g1]
 by_cases g2:(s.aW.length:Int)<=5;rotate_left;·simp -implicitDefEqProofs [nR,u1,u2,u3,g1,eq_false g2]
 by_cases g3:5<=s.next
 rotate_left;·simp -implicitDefEqProofs [nR,u1,u2,u3,g1,eq_true g2,eq_false g3]
 by_cases g4:s.next<=19
 rotate_left;·simp -implicitDefEqProofs [nR,u1,u2,u3,g1,eq_true g2,eq_true g3,eq_false g4]
 by_cases g5:1<=s.seq;rotate_left;·simp -implicitDefEqProofs [nR,u1,u2,u3,g1,eq_true g2,eq_true g3,eq_true g4,eq_false g5]
 by_cases g6:s.seq<=100000;rotate_left;·simp -implicitDefEqProofs [nR,u1,u2,u3,g1,eq_true g2,eq_true g3,eq_true g4,eq_true g5,eq_false g6]
 by_cases g7:fA s.bp=true;rotate_left;·simp -implicitDefEqProofs [nR,u1,u2,u3,g1,eq_true g2,eq_true g3,eq_true g4,eq_true g5,eq_true g6,g7]
 simp -implicitDefEqProofs [nR,u1,u2,u3,g1,eq_true g2,eq_true g3,eq_true g4,eq_true g5,eq_true g6,g7];all_goals (repeat' split)<;>first|rfl|omega|(simp_all;done)|(simp_all;omega)|skip
end M
set_option maxHeartbeats 4000000
namespace M
open Go
variable [Lb]
def Om(l:List aH):(ku l).length<=4*wL aN l:=by
 unfold ku;induction l with
 |nil=>simp[wL]
 |cons f l ih=>simp only[jk,fO,wL,cV,bq,Cz,HR,aN,jl] at*;omega
def Qm:(⟨#[13,10]⟩:ByteArray)=⟨crlf.toArray⟩:=rfl
def ab7:(⟨#[72,84,84,80,47,49,46,49,32]⟩:ByteArray)=⟨(pn++[32]).toArray⟩:=rfl
def ab4:(⟨#[32,46]⟩:ByteArray)=⟨([32,46]:ah).toArray⟩:=rfl
def ab3:(⟨#[99,111,110,116,101,110,116,45,108,101,110,103,116,104,58,32]⟩:ByteArray)=⟨(fu++colon).toArray⟩:=rfl
def ab5:(⟨#[111,98,106,32]⟩:ByteArray)=⟨(pg++[32]).toArray⟩:=rfl
def ab6:(⟨#[32]⟩:ByteArray)=⟨([32]:ah).toArray⟩:=rfl
def Qn:(⟨#[10]⟩:ByteArray)=⟨([10]:ah).toArray⟩:=rfl
def Kg:colon.length=2:=rfl
def Kh:crlf.length=2:=rfl
def ab8:ck.length=4:=rfl
def Qo:pn.length=8:=rfl
def Kf:fu.length=14:=rfl
def Ki:pg.length=3:=rfl
def ON{β:Type}(f:β->ah):∀(l:List β) (i:Nat) (g:ah),foldI (λ_ g b=>g++f b) i l g=g++l.flatMap f
 |[],_,g=>by simp[foldI]
 |b::l,i,g=>by rw[foldI,ON f l];simp
structure Uu (r:aU):Prop where
 s0:100<=r.status
 s1:r.status<=599
 f:mB r.fields=true
 b:r.body.length<=120
 nt:dZ r.status=bG r.status.toNat
 nb:dZ (r.body.length:Int)=bG r.body.length
 ls:(bG r.status.toNat).length<=7
 lb:(bG r.body.length).length<=7
 Su:jd r=pn++32::(bG r.status.toNat++32::46::(crlf++(ku r.fields++(fu++(colon++(bG r.body.length++(ck++r.body)))))))
def KN{r:aU}(h:eZ r=true):Uu r:=by
 obtain⟨h1,h2,h3⟩:=Rm h;refine⟨h1.1,h1.2,h2,h3,?_,?_,qd _ (by omega),qd _ (by omega),?_⟩;·unfold dZ;rw[aq (by omega)]
 ·exact QH _ (by omega)
 ·unfold jd;rw[aq h,Ry];simp[lT,mQ,colon]
def Wb(b:ah)(hb:b.length<=1000000):ev LI TT 168 [.str ⟨b.toArray⟩]=some (.str ⟨(fu++(colon++(bG b.length++crlf))).toArray⟩,[.dead]):=by
 rw[aF (b:=Fc) (rs:=[.t 2]) (n:=1) rfl rfl];have l7:=qd b.length hb;have u1:=tO b.length (by omega);try simp at u1
 simp -implicitDefEqProofs [Fc,u1,ab3,Qm,s8,Kf,Kg,Kh];all_goals (try omega)
def M6(r:aU)(hb:aL r<=1073741824):ev LI TT 146 [.agg (cF .af r)]=some (.str ⟨(jd r).toArray⟩,[.dead]):=by
 rw[aF (b:=A8) (rs:=[.t 2]) (n:=1) rfl rfl];have hw:aL r=wL aN r.fields+r.body.length:=rfl;have hfl:=Om r.fields;have si:=bC (w:=aN) r.fields;have hft:=VF r.fields (by omega) (by omega);have u1:=tM r hb;try simp at u1
 by_cases hok:eZ r=true;rotate_left;·have e:jd r=[]:=(Ro r).2 hok;rw[show eZ r=false by simpa using hok] at u1;simp -implicitDefEqProofs [A8,u1,e]
 rw[hok] at u1;have A:=KN hok;have a0:=A.s0;have a0':=A.s1;have a1:=A.ls;have a2:=A.lb;have a3:=A.b;have hst:r.status=((r.status.toNat:Nat):Int):=by omega
 have u2:=tO r.status.toNat (by omega);rw[<-hst] at u2;have u3:=Wb r.body (by omega);try simp at hft
 try simp at u2
 try simp at u3
 rw[A.Su];generalize ku r.fields=T at hft hfl;generalize bG r.status.toNat=D at u2 a1;generalize bG r.body.length=E at u3 a2;simp -implicitDefEqProofs [A8,u1,hft,u2,u3,ab7,ab4,Qm,s8,Qo,Kh,Kf,Kg];refine⟨by omega,by omega,by omega,by omega,by omega,by omega,by omega,?_⟩;simp[crlf,ck]
def Sy(l:List ah):(mX l).length<=2*wL wS l:=by
 unfold mX;induction l with
 |nil=>simp[wL]
 |cons v l ih=>simp only[jk,fO,wL,cV,bq,Cz,wS,jl] at*;omega
def RB(r:aU):(jd r).length<=4*aL r+60:=by
 by_cases h:eZ r=true;·have A:=KN h;have hfl:=Om r.fields;have a1:=A.ls;have a2:=A.lb;rw[A.Su];have hw:aL r=wL aN r.fields+r.body.length:=rfl;simp[Qo,Kh,Kf,Kg,ab8];omega
 ·rw[(Ro r).2 h];simp
def TY(o:Ob)(hb:aZ o<=1073741824)(g:ah)(hinv:g.length<=9223372036+2*(wL wS (o.values.take 0))):aX (aA (ev LI TT) (aB TT) A5) [(1,.ptr .own (cD .af o)),(3,.str ⟨(g).toArray⟩),(24,.ai 1 [] 0 2),(25,.row .af 1 (o.values.map eS)),(26,.int .i64 o.values.length),(27,.int .i64 0)]=some (.exit 0,[(1,.ptr .own (cD .af o)),(3,.str ⟨((foldI (λ_ g v=>g++(v++[10])) 0 (o.values) g)).toArray⟩),(24,.ai 1 [] 0 2),(25,.row .af 1 (o.values.map eS)),(26,.int .i64 o.values.length),(27,.int .i64 (o.values).length),(28,.bool false)]):=by
 refine mR (f:=aA (ev LI TT) (aB TT) A5) (o.values) (λi (g:ah)=>[(1,.ptr .own (cD .af o)),(3,.str ⟨(g).toArray⟩),(24,.ai 1 [] 0 2),(25,.row .af 1 (o.values.map eS)),(26,.int .i64 o.values.length),(27,.int .i64 i)]) (λ_ g v=>g++(v++[10])) (λg=>[(1,.ptr .own (cD .af o)),(3,.str ⟨(g).toArray⟩),(24,.ai 1 [] 0 2),(25,.row .af 1 (o.values.map eS)),(26,.int .i64 o.values.length),(27,.int .i64 (o.values).length),(28,.bool false)]) (λi (g:ah)=>g.length<=9223372036+2*(wL wS (o.values.take i))) g hinv (λi b g hi hl hinv=>?_) (λi b g hi hinv=>?_) (λg hinv=>?_);·have hw:=cw i (by have hw:aZ o=o.path.length+wL wS o.names+wL wS o.values+aL o.resp:=rfl;have:=bC (w:=wS) o.values;omega);obtain⟨_,rfl⟩:=aQ.1 hi;have hw0:aZ o=o.path.length+wL wS o.names+wL wS o.values+aL o.resp:=rfl;have hm:=Ln (cU hl);have ht:=ahY wS o.values i;simp -implicitDefEqProofs [A5,Jt,hl,hw,Qn,s8];all_goals (try omega)
 ·obtain⟨hl,rfl⟩:=aQ.1 hi;rw[yE hl];simp only[wL,fO,kg,List.sum_append,cV,jl,bq,jm,Cz,List.sum_nil,wS] at*;omega
 ·simp -implicitDefEqProofs [A5,Jt]
def M4(o:Ob)(hb:aZ o<=1073741824):ev LI TT 109 [.agg (cD .af o)]=some (.str ⟨(fy o).toArray⟩,[.dead]):=by
 rw[aF (b:=A6) (rs:=[.t 2]) (n:=1) rfl rfl];have hw:aZ o=o.path.length+wL wS o.names+wL wS o.values+aL o.resp:=rfl;have hrl:=RB o.resp;have hvl:=Sy o.values;have hvn:=bC (w:=wS) o.values;have hft:=M6 o.resp (by omega);have u1:=vX o (by omega);try simp at u1
 have u2:=Hj o.t;try simp at u2
 have u3:=tO o.values.length (by omega);try simp at u3
 by_cases hok:dJ o=true;rotate_left;·have e:fy o=[]:=(QK o).2 hok;rw[show dJ o=false by simpa using hok] at u1;simp -implicitDefEqProofs [A6,u1,e]
 rw[hok] at u1;have A:=FO hok;have a1:=A.len;have a2:=A.n4;have a3:=BL o.t;have a4:=qd o.values.length (by omega);have et:fy o=pg++32::(o.path++32::(dZ o.t++32::(bG o.values.length++10::(mX o.values++jd o.resp)))):=by unfold fy pz sV jd;rw[aq hok,aq A.resp];simp
 have hlp:=TY o hb (pg++32::(o.path++32::(dZ o.t++32::(bG o.values.length++[10])))) (by simp[Ki];omega);rw[ON,show o.values.flatMap (λv=>v++[10])=mX o.values from rfl] at hlp;try simp at hlp
 try simp at hft
 rw[et];generalize jd o.resp=R at hft hrl;generalize bG o.values.length=E at u3 a4 hlp;generalize mX o.values=V at hvl hlp;simp -implicitDefEqProofs [A6,u1,u2,u3,hft,hlp,ab5,ab6,Qn,s8,Ki];all_goals (try omega)
end M
set_option maxHeartbeats 4000000
namespace M
open Go
variable [Lb]
def Z3(fs:List aH)(n v:ah):(decide (dP fs n=some v))=((dP fs n).isSome && decide ((dP fs n).getD []=v)):=by cases dP fs n<;>simp
def VH(b:Bn)(o:Ob)(h1:bK b<=1073741824)(h2:aZ o<=1073741824):ev LI TT 86 [.agg (dH b),.agg (cD .af o)]=some (.bool (uj b o),[.dead,.dead]):=by
 rw[aF (b:=qC) (rs:=[.t 4]) (n:=2) rfl rfl];have hw:bK b=b.a.length+b.b.length:=rfl;have dW:aZ o=o.path.length+wL wS o.names+wL wS o.values+aL o.resp:=rfl;have sw:aL o.resp=wL aN o.resp.fields+o.resp.body.length:=rfl;have l1:=bC (w:=aN) o.resp.fields;unfold uj;rw[Z3,show b.a.isPrefixOf o.path=Lib.hasPrefix o.path b.a from rfl];have u1:=C0 b h1;try simp at u1
 have u2:=vX o (by omega);try simp at u2
 have u3:=nA o.resp.fields b.a (by omega);try simp at u3
 have u4:=WA o.path b.a;try simp at u4
 by_cases g1:o.t<=b.t;rotate_left
 ·have ud:b.t<o.t:=by omega
  simp -implicitDefEqProofs [qC,u1,u2,g1,ud]
 have ud:¬b.t<o.t:=by omega
 generalize eT b=b1 at u1;cases b1;·simp -implicitDefEqProofs [qC,u1,g1,ud]
 generalize dJ o=b2 at u2;cases b2;·simp -implicitDefEqProofs [qC,u1,u2,g1,ud]
 by_cases g2:b.kind=1;·rw[g2] at u1;simp -implicitDefEqProofs [qC,u1,u2,g1,ud,g2]
 by_cases g3:b.kind=2;·rw[g3] at u1;simp -implicitDefEqProofs [qC,u1,u2,u4,g1,ud,g2,g3]
 generalize (dP o.resp.fields b.a).isSome=b3 at u3;cases b3;all_goals
 simp -implicitDefEqProofs [qC,u1,u2,u3,u4,g1,ud,g2,g3];all_goals (repeat' split)<;>first|rfl|omega|(simp_all;done)|(simp_all;omega)|skip
def aaO(l:List Bn)(o:Ob):bT (λb=> !uj b o) l= !jx l o:=by
 unfold jx bT;induction l with
 |nil=>rfl
 |cons b l ih=>simp only[List.all_cons,List.any_cons,ih,Bool.not_or]
def TU(l:List Bn)(o:Ob)(h1:wL bK l<=1073741824)(h2:aZ o<=1073741824):aX (aA (ev LI TT) (aB TT) AP) [(0,.row .af 4 (l.map dH)),(3,.ptr .own (cD .af o)),(7,.row .af 4 (l.map dH)),(8,.int .i64 l.length),(9,.int .i64 0)]=if bT (λb=> !uj b o) (l)=true then some (.exit 0,[(0,.row .af 4 (l.map dH)),(3,.ptr .own (cD .af o)),(7,.row .af 4 (l.map dH)),(8,.int .i64 l.length),(9,.int .i64 (l).length),(10,.bool false)]) else some (.ret,[(4,.bool true)]):=by
 refine lE (f:=aA (ev LI TT) (aB TT) AP) (l) (λi=>[(0,.row .af 4 (l.map dH)),(3,.ptr .own (cD .af o)),(7,.row .af 4 (l.map dH)),(8,.int .i64 l.length),(9,.int .i64 i)]) (λb=> !uj b o) _ _ (λi b hi hl=>?_) ?_
 ·have hw:=cw i (by have:=bC (w:=bK) l;omega);obtain⟨_,rfl⟩:=aQ.1 hi;have hm:=SF (cU hl);have u1:=VH l[i] o (by omega) h2;try simp at u1
  cases hh:uj l[i] o<;>rw[hh] at u1;all_goals
  simp -implicitDefEqProofs [AP,Jp,hl,hw,u1,hh];all_goals (repeat' split)<;>first|rfl|omega|(simp_all;done)|(simp_all;omega)|skip
 ·simp -implicitDefEqProofs [AP,Jp]
def C3(l:List Bn)(o:Ob)(h1:wL bK l<=1073741824)(h2:aZ o<=1073741824):ev LI TT 46 [.row .af 4 (l.map dH),.agg (cD .af o)]=some (.bool (jx l o),[.dead,.dead]):=by
 rw[aF (b:=Ev) (rs:=[.t 4]) (n:=2) rfl rfl];have u1:=TU l o h1 h2;try simp at u1
 rw[aaO] at u1;cases hh:jx l o<;>rw[hh] at u1;all_goals try simp at u1
 all_goals
 simp -implicitDefEqProofs [Ev,u1];all_goals (repeat' split)<;>first|rfl|omega|(simp_all;done)|(simp_all;omega)|skip
end M
namespace M
open Go
variable [Lb]
def vj(fs:List aH)(n:ah):ah:=(dP fs n).getD [45]
def valuesOf(ns:List ah)(fs:List aH):List ah:=ns.map (vj fs)
def Sz(ns:List ah)(fs:List aH):(valuesOf ns fs).length=ns.length:=by simp[valuesOf]
def T8(ns:List ah)(fs:List aH)(hb:ns.length<=1073741824)(hf:fs.length<=9223372036854775807):aX (aA (ev LI TT) (aB TT) Bh) [(0,.row .af 1 (ns.map eS)),(1,.row .af 2 (fs.map aR)),(5,.row .own 1 (([]).map eS)),(10,.row .af 1 (ns.map eS)),(11,.int .i64 ns.length),(12,.int .i64 0)]=some (.exit 0,[(0,.row .af 1 (ns.map eS)),(1,.row .af 2 (fs.map aR)),(5,.row .own 1 ((((ns).flatMap (λn=>[vj fs n]))).map eS)),(10,.row .af 1 (ns.map eS)),(11,.int .i64 ns.length),(12,.int .i64 (ns).length),(13,.bool false)]):=by
 refine qK (f:=aA (ev LI TT) (aB TT) Bh) (ns) (λn=>[vj fs n]) (λi out=>[(0,.row .af 1 (ns.map eS)),(1,.row .af 2 (fs.map aR)),(5,.row .own 1 ((out).map eS)),(10,.row .af 1 (ns.map eS)),(11,.int .i64 ns.length),(12,.int .i64 i)]) (λout=>[(0,.row .af 1 (ns.map eS)),(1,.row .af 2 (fs.map aR)),(5,.row .own 1 ((out).map eS)),(10,.row .af 1 (ns.map eS)),(11,.int .i64 ns.length),(12,.int .i64 (ns).length),(13,.bool false)]) (λi b out hi hl hout=>?_) (λout hout=>?_)
 ·have hw:=cw i (by first|omega|(simp at hl;omega));obtain⟨_,rfl⟩:=aQ.1 hi;have h:=nA fs ns[i] hf;have hlo:out.length=i:=by rw[hout];exact wH _ _ _ (by omega)
  have hlz:(i+1)*16<=140737488355328:=by omega
  unfold vj;cases g:dP fs ns[i]<;>rw[g] at h;all_goals
  simp -implicitDefEqProofs [Bh,JH,hl,hw,h,hlo,hlz,cZ]
 ·simp -implicitDefEqProofs [Bh,JH]
def Nf(ns:List ah)(fs:List aH)(hb:ns.length<=1073741824)(hf:fs.length<=9223372036854775807):ev LI TT 107 [.row .af 1 (ns.map eS),.row .af 2 (fs.map aR)]=some (.row .own 1 ((valuesOf ns fs).map eS),[.dead,.dead]):=by
 rw[aF (b:=ER) (rs:=[.t 4]) (n:=2) rfl rfl];have u1:=T8 ns fs hb hf;try simp at u1
 rw[HY,show ns.map (λn=>vj fs n)=valuesOf ns fs from rfl] at u1;simp -implicitDefEqProofs [ER,u1];all_goals (repeat' split)<;>first|rfl|omega|(simp_all;done)|(simp_all;omega)|skip
def KY(ns:List ah):Bool:=(cO (λn=>decide (n=[42])) 0 ns).isSome
def Uq(ns:List ah)(s:ah)(hb:ns.length<=9223372036854775807):aX (aA (ev LI TT) (aB TT) Ct) [(0,.row .af 1 (ns.map eS)),(1,.str ⟨s.toArray⟩),(7,.int .i64 ns.length),(8,.int .i64 0)]=(cO (λn=>decide (n=s)) 0 (ns)).elim (some (.exit 0,[(0,.row .af 1 (ns.map eS)),(1,.str ⟨s.toArray⟩),(7,.int .i64 ns.length),(8,.int .i64 (ns).length),(9,.bool false)])) λx=>some (.ret,(λ(i:Nat) b=>[(4,.int .i64 i)]) x.1 x.2):=by
 refine uN (f:=aA (ev LI TT) (aB TT) Ct) (ns) (λi=>[(0,.row .af 1 (ns.map eS)),(1,.str ⟨s.toArray⟩),(7,.int .i64 ns.length),(8,.int .i64 i)]) (λn=>decide (n=s)) (λ(i:Nat) b=>[(4,.int .i64 i)]) _ (λi b hi hl=>?_) ?_;·have hw:=cw i (by first|omega|(simp at hl;omega));obtain⟨_,rfl⟩:=aQ.1 hi;simp -implicitDefEqProofs [Ct,Lu,hl,hw,eq_comm (a:=s)]
 ·simp -implicitDefEqProofs [Ct,Lu]
def Wv(ns:List ah)(s:ah)(hb:ns.length<=9223372036854775807):ev LI TT 162 [.row .af 1 (ns.map eS),.str ⟨s.toArray⟩]=some (.int .i64 (((cO (λn=>decide (n=s)) 0 ns).elim (-1) λx=>(x.1:Int))),[.dead,.dead]):=by
 rw[aF (b:=Cu) (rs:=[.t 4]) (n:=2) rfl rfl];have u1:=Uq ns s hb;try simp at u1
 cases g:cO (λn=>decide (n=s)) 0 ns with
 |none=>rw[g] at u1;simp at u1;simp -implicitDefEqProofs [Cu,u1]
 |some x=>
 rw[g] at u1;simp at u1;simp -implicitDefEqProofs [Cu,u1];all_goals (repeat' split)<;>first|rfl|omega|(simp_all;done)|(simp_all;omega)|skip
def Wp(ns:List ah)(s:ah)(hb:ns.length<=9223372036854775807):ev LI TT 134 [.row .af 1 (ns.map eS),.str ⟨s.toArray⟩]=some (.bool ((cO (λn=>decide (n=s)) 0 ns).isSome),[.dead,.dead]):=by
 rw[aF (b:=Cl) (rs:=[.t 4]) (n:=2) rfl rfl];have u1:=Wv ns s hb;try simp at u1
 cases g:cO (λn=>decide (n=s)) 0 ns with
 |none=>rw[g] at u1;simp at u1;simp -implicitDefEqProofs [Cl,u1]
 |some x=>
 rw[g] at u1;simp at u1;simp -implicitDefEqProofs [Cl,u1];all_goals (repeat' split)<;>first|rfl|omega|(simp_all;done)|(simp_all;omega)|skip
def yl(ns vs:List ah)(fs:List aH):Bool:= !KY ns && decide (valuesOf ns fs=vs)
def V1(ns:List ah)(vs:List ah)(fs:List aH)(hb:ns.length<=1073741824)(hv:vs.length<=1073741824)(hf:fs.length<=9223372036854775807):ev LI TT 82 [.row .af 1 (ns.map eS),.row .af 1 (vs.map eS),.row .af 2 (fs.map aR)]=some (.bool (yl ns vs fs),[.dead,.dead,.dead]):=by
 rw[aF (b:=EM) (rs:=[.t 6]) (n:=3) rfl rfl];have u1:=Wp ns [42] (by omega);try simp at u1
 have u2:=Nf ns fs hb hf;try simp at u2
 have u3:=yY (valuesOf ns fs) vs (by rw[Sz];omega);try simp at u3
 rw[show (cO (λn:ah=>decide (n=[42])) 0 ns).isSome=KY ns from rfl] at u1;unfold yl;cases g:KY ns<;>rw[g] at u1;all_goals
 simp -implicitDefEqProofs [EM,u1,u2,u3];all_goals (repeat' split)<;>first|rfl|omega|(simp_all;done)|(simp_all;omega)|skip
end M
set_option maxHeartbeats 4000000
namespace M
open Go
variable [Lb]
def yX(o:Ob)(hb:aZ o<=1073741824):ev LI TT 33 [.agg (cD .af o)]=some (.agg (cD .own o),[.dead]):=by
 rw[aF (b:=EZ) (rs:=[.c 2 7 true 60]) (n:=1) rfl rfl];have hw:aZ o=o.path.length+wL wS o.names+wL wS o.values+aL o.resp:=rfl;have dW:aL o.resp=wL aN o.resp.fields+o.resp.body.length:=rfl;have l1:=bC (w:=aN) o.resp.fields;have l2:=bC (w:=wS) o.names;have l3:=bC (w:=wS) o.values;have u1:=oz o.resp (by omega);try simp at u1
 have u2:=Fs o.names (by omega);try simp at u2
 have u3:=Fs o.values (by omega);try simp at u3
 simp -implicitDefEqProofs [EZ,u1,u2,u3];all_goals (repeat' split)<;>first|rfl|omega|(simp_all;done)|(simp_all;omega)|skip
def OC(s:Sh)(q:Rq)(k:Kp):Bool:=decide (k.obj.path=q.path) && yl k.obj.names k.obj.values q.fields && !jx s.aW k.obj
def zq(s:Sh)(q:Rq):Option Ob:=(s.aG.reverse.find? (OC s q)).map λk=>k.obj
def fW(s:Sh)(q:Rq):Option Ob:=if gR s=true then zq s q else none
def ez:Ob:=⟨[],[],[],⟨0,[],[]⟩,0⟩
end M
set_option maxHeartbeats 4000000
namespace M
open Go
variable [Lb]
structure Cc where
 ns:Bool
 nc:Bool
 pr:Bool
 mu:Bool
 ha:Bool
 vN:Int
@[simp] def mz(c:Cc):List X:=[.bool c.ns,.bool c.nc,.bool c.pr,.bool c.mu,.bool c.ha,.int .i64 c.vN]
def oB:Cc:=⟨false,false,false,false,false,0⟩
def FJ:ah:=[110,111,45,115,116,111,114,101]
def FI:ah:=[110,111,45,99,97,99,104,101]
def FK:ah:=[112,114,105,118,97,116,101]
def FH:ah:=[109,117,115,116,45,114,101,118,97,108,105,100,97,116,101]
def xV:ah:=[109,97,120,45,97,103,101,61]
def Nv(w:ah):Option Nat:=if Lib.hasPrefix w xV=true then some ((cy (w.drop 8)).getD 0) else none
def wh(c:Cc)(w:ah):Cc:=if w=FJ then {c with ns:=true} else if w=FI then {c with nc:=true} else if w=FK then {c with pr:=true} else if w=FH then {c with mu:=true} else
 match Nv w with
 |some n=>{c with ha:=true,vN:=if c.ha=true then min (n:Int) c.vN else n}
 |none=>c
def Da(v:ah):Cc:=(lY v).foldl (λc w=>wh c (dh w)) oB
def iQ(fs:List aH):Cc:=Da ((dP fs qO).getD [])
def acD:(⟨#[110,111,45,115,116,111,114,101]⟩:ByteArray)=⟨FJ.toArray⟩/\(⟨#[110,111,45,99,97,99,104,101]⟩:ByteArray)=⟨FI.toArray⟩/\(⟨#[112,114,105,118,97,116,101]⟩:ByteArray)=⟨FK.toArray⟩/\(⟨#[109,117,115,116,45,114,101,118,97,108,105,100,97,116,101]⟩:ByteArray)=⟨FH.toArray⟩/\(⟨#[109,97,120,45,97,103,101,61]⟩:ByteArray)=⟨xV.toArray⟩:=⟨rfl,rfl,rfl,rfl,rfl⟩
def WG{w:ah}(h:w=FJ\/w=FI\/w=FK\/w=FH):Lib.hasPrefix w xV=false:=by rcases h with rfl|rfl|rfl|rfl<;>decide
def VC(c:Cc)(w:ah)(hb:w.length<=1073741824):ev LI TT 159 [.ptr .own (mz c),.str ⟨w.toArray⟩]=some (.aj [],[.ptr .own (mz (wh c w)),.dead]):=by
 rw[aF (b:=qA) (rs:=[]) (n:=2) rfl rfl];obtain⟨t1,t2,t3,t4,t5⟩:=acD;have v3:=Wz w xV (by omega);have hword:=WG (w:=w);unfold wh;by_cases g1:w=FJ;·rw[hword (Or.inl g1)] at v3;simp -implicitDefEqProofs [qA,v3,t1,t5,eq_true g1]
 by_cases g2:w=FI;·rw[hword (by simp[g2])] at v3;simp -implicitDefEqProofs [qA,v3,t1,t2,t5,eq_false g1,eq_true g2]
 by_cases g3:w=FK;·rw[hword (by simp[g3])] at v3;simp -implicitDefEqProofs [qA,v3,t1,t2,t3,t5,eq_false g1,eq_false g2,eq_true g3]
 by_cases g4:w=FH;·rw[hword (by simp[g4])] at v3;simp -implicitDefEqProofs [qA,v3,t1,t2,t3,t4,t5,eq_false g1,eq_false g2,eq_false g3,eq_true g4]
 unfold Nv;cases hp:Lib.hasPrefix w xV;·rw[hp] at v3;simp -implicitDefEqProofs [qA,v3,t1,t2,t3,t4,t5,eq_false g1,eq_false g2,eq_false g3,eq_false g4]
 rw[hp,show Lib.trimPrefix w xV=w.drop 8 by unfold Lib.trimPrefix;rw[hp];rfl] at v3;have v4:=tL (w.drop 8) (by simp;omega);try simp at v3
 try simp at v4
 generalize (cy (w.drop 8)).getD 0=n at v4;cases gh:c.ha;all_goals
 simp -implicitDefEqProofs [qA,v3,v4,t1,t2,t3,t4,t5,eq_false g1,eq_false g2,eq_false g3,eq_false g4,gh];all_goals (repeat' split)<;>first|rfl|omega|(simp_all;done)|(simp_all;omega)|skip
def TO(ws:List ah)(hl0:ws.length<=1073741825)(hb:∀w∈ws,w.length<=1073741824)(g:Cc):aX (aA (ev LI TT) (aB TT) AK) [(2,.ptr .own (mz oB)),(3,.ptr .own (mz g)),(7,.row .own 1 (ws.map eS)),(8,.int .i64 ws.length),(9,.int .i64 0)]=some (.exit 0,[(2,.ptr .own (mz oB)),(3,.ptr .own (mz ((ws).foldl (λc w=>wh c (dh w)) g))),(7,.row .own 1 (ws.map eS)),(8,.int .i64 ws.length),(9,.int .i64 (ws).length),(10,.bool false)]):=by
 refine Kk (f:=aA (ev LI TT) (aB TT) AK) (ws) (λi (g:Cc)=>[(2,.ptr .own (mz oB)),(3,.ptr .own (mz g)),(7,.row .own 1 (ws.map eS)),(8,.int .i64 ws.length),(9,.int .i64 i)]) (λc w=>wh c (dh w)) (λg=>[(2,.ptr .own (mz oB)),(3,.ptr .own (mz g)),(7,.row .own 1 (ws.map eS)),(8,.int .i64 ws.length),(9,.int .i64 (ws).length),(10,.bool false)]) (λ_ _=>True) g trivial (λi b g hi hl _=>?_) (λ_ _ _ _ _=>trivial) (λg _=>?_)
 ·have hw:=cw i (by first|omega|(simp at hl;omega));obtain⟨_,rfl⟩:=aQ.1 hi;have hx:=hb _ (cU hl);have v1:=M1 ws[i] hx;have v2:(dh ws[i]).length<=1073741824:=by simp[dh];exact hx
  have v3:=VC g (dh ws[i]) v2;try simp at v1
  try simp at v3
  simp -implicitDefEqProofs [AK,Jl,hl,hw,v1,v3,oB];all_goals (repeat' split)<;>first|rfl|omega|(simp_all;done)|(simp_all;omega)|skip
 ·simp -implicitDefEqProofs [AK,Jl]
def VB(v:ah)(hb:v.length<=1073741824):ev LI TT 131 [.str ⟨v.toArray⟩]=some (.agg (mz (Da v)),[.dead]):=by
 rw[aF (b:=El) (rs:=[.c 2 6 true 129]) (n:=1) rfl rfl];have hm:=Gi v;have hn:=Lp v;have u1:=Nc v hb;try simp at u1
 have u2:=TO (lY v) (by omega) (λw hw=>by have:=hm w hw;omega) oB;try simp at u2
 rw[show (lY v).foldl (λc w=>wh c (dh w)) oB=Da v from rfl] at u2;simp[oB] at u2;simp -implicitDefEqProofs [El,u1,u2,oB];all_goals (repeat' split)<;>first|rfl|omega|(simp_all;done)|(simp_all;omega)|skip
def vW(fs:List aH)(hb:wL aN fs<=1073741824):ev LI TT 80 [.row .af 2 (fs.map aR)]=some (.agg (mz (iQ fs)),[.dead]):=by
 rw[aF (b:=Ek) (rs:=[.c 2 6 true 129]) (n:=1) rfl rfl];have hfl:=bC (w:=aN) fs;have hg:=ue fs qO;have t3:(⟨#[99,97,99,104,101,45,99,111,110,116,114,111,108]⟩:ByteArray)=⟨qO.toArray⟩:=rfl;have u1:=nA fs qO (by omega);try simp at u1
 have u2:=VB ((dP fs qO).getD []) (by omega);try simp at u2
 rw[show Da ((dP fs qO).getD [])=iQ fs from rfl] at u2;simp -implicitDefEqProofs [Ek,u1,u2,t3];all_goals (repeat' split)<;>first|rfl|omega|(simp_all;done)|(simp_all;omega)|skip
end M
set_option maxHeartbeats 4000000
namespace M
open Go
variable [Lb]
def C4(q:Rq)(hb:bg q<=1073741824):ev LI TT 50 [.agg (dy .af q)]=some (.bool (lN q),[.dead]):=by
 rw[aF (b:=xk) (rs:=[.t 2]) (n:=1) rfl rfl];have sw:bg q=q.path.length+wL aN q.fields+q.body.length:=rfl;unfold lN;have u1:=Ht q.path (by omega);try simp at u1
 have u2:=M0 q.fields (by omega);try simp at u2
 by_cases g1:1<=q.method;rotate_left;·simp -implicitDefEqProofs [xk,u1,u2,eq_false g1]
 by_cases g2:q.method<=4;rotate_left;·simp -implicitDefEqProofs [xk,u1,u2,eq_true g1,eq_false g2]
 cases g3:kO q.path<;>cases g4:mB q.fields<;>rw[g3] at u1<;>rw[g4] at u2;all_goals
 simp -implicitDefEqProofs [xk,u1,u2,eq_true g1,eq_true g2];all_goals (repeat' split)<;>first|rfl|omega|(simp_all;done)|(simp_all;omega)|skip
def kV(q:Rq):Bool:=lN q && decide (q.method=1) && !(iQ q.fields).ns
def kU(a b:Rq):Bool:=kV a && kV b && decide (a.path=b.path) && decide (a.fields=b.fields)
def Hs(q:Rq)(hb:bg q<=1073741824):ev LI TT 95 [.agg (dy .af q)]=some (.bool (kV q),[.dead]):=by
 rw[aF (b:=E8) (rs:=[.t 2]) (n:=1) rfl rfl];have sw:bg q=q.path.length+wL aN q.fields+q.body.length:=rfl;unfold kV;have u1:=C4 q hb;try simp at u1
 have u2:=vW q.fields (by omega);try simp at u2
 cases g3:lN q<;>rw[g3] at u1;all_goals by_cases g4:q.method=1
 all_goals
 simp -implicitDefEqProofs [E8,u1,u2,g4];all_goals (repeat' split)<;>first|rfl|omega|(simp_all;done)|(simp_all;omega)|skip
def XF(a b:aH):a=b↔(a.name=b.name/\a.value=b.value):=by cases a;cases b;simp
def Um(ps:List (aH×aH))(hb:ps.length<=9223372036854775807):aX (aA (ev LI TT) (aB TT) Cm) [(0,.row .af 2 (ps.map λx=>aR x.1)),(1,.row .af 2 (ps.map λx=>aR x.2)),(12,.int .i64 ps.length),(13,.int .i64 0)]=if bT oD (ps)=true then some (.exit 0,[(0,.row .af 2 (ps.map λx=>aR x.1)),(1,.row .af 2 (ps.map λx=>aR x.2)),(12,.int .i64 ps.length),(13,.int .i64 ps.length),(14,.bool false)]) else some (.ret,[(4,.bool false)]):=by
 refine lE (f:=aA (ev LI TT) (aB TT) Cm) (ps) (λi=>[(0,.row .af 2 (ps.map λx=>aR x.1)),(1,.row .af 2 (ps.map λx=>aR x.2)),(12,.int .i64 ps.length),(13,.int .i64 i)]) oD _ _ (λi b hi hl=>?_) ?_;·have hw:=cw i (by first|omega|(simp at hl;omega));obtain⟨_,rfl⟩:=aQ.1 hi;simp -implicitDefEqProofs [Cm,Lq,hl,hw,oD,XF];first|done|(split<;>simp_all;done)|(split<;>simp_all<;>(intro h;simp_all))
 ·simp -implicitDefEqProofs [Cm,Lq]
def Ws(a b:List aH)(hb:a.length<=9223372036854775807):ev LI TT 96 [.row .af 2 (a.map aR),.row .af 2 (b.map aR)]=some (.bool (decide (a=b)),[.dead,.dead]):=by
 rw[aF (b:=Gl) (rs:=[.t 4]) (n:=2) rfl rfl];simp -implicitDefEqProofs [Gl];by_cases h:a.length=b.length;·obtain⟨ps,rfl,rfl⟩:=Mo h;have h1:=Um ps (by simpa using hb);have h2:=GS ps;simp at h1;rw[<-h2];cases h3:bT oD ps<;>rw[h3] at h1<;>simp[h1,CE]
 ·have:¬a=b:=λe=>h (by rw[e]);simp[this];omega
def MS(a:Rq)(b:Rq)(ha:bg a<=1073741824)(hb:bg b<=1073741824):ev LI TT 52 [.agg (dy .af a),.agg (dy .af b)]=some (.bool (kU a b),[.dead,.dead]):=by
 rw[aF (b:=ux) (rs:=[.t 4]) (n:=2) rfl rfl];have sw:bg a=a.path.length+wL aN a.fields+a.body.length:=rfl;have l2:=bC (w:=aN) a.fields;unfold kU;have u1:=Hs a ha;try simp at u1
 have u2:=Hs b hb;try simp at u2
 have u3:=Ws a.fields b.fields (by omega);try simp at u3
 generalize kV a=g1 at u1;generalize kV b=g2 at u2;generalize decide (a.fields=b.fields)=g4 at u3;cases g1;·simp -implicitDefEqProofs [ux,u1]
 cases g2;·simp -implicitDefEqProofs [ux,u1,u2]
 by_cases g3:a.path=b.path;rotate_left;·simp -implicitDefEqProofs [ux,u1,u2,eq_false g3]
 simp -implicitDefEqProofs [ux,u1,u2,u3,eq_true g3];all_goals (repeat' split)<;>first|rfl|omega|(simp_all;done)|(simp_all;omega)|skip
end M
set_option maxHeartbeats 4000000
namespace M
open Go
variable [Lb]
def qh(l:List Fl)(x:Fl×Nat):Bool:=lN x.1.q && decide (1<=(x.1.who.length:Int)/\(x.1.who.length:Int)<=5) && (!x.1.gp||dJ x.1.old) && bT (λy=> !kU y.q x.1.q) (l.take x.2)
def zx(l:List Fl):Bool:=decide ((l.length:Int)<=5) && bT (qh l) l.zipIdx
def nB(c:Ca):Bool:=gR c.au && decide (0<=c.now/\c.now<=1000000) && decide ((c.seen.length:Int)<=1500) && decide ((c.sent.length:Int)<=1500) && zx c.aD
def SG{l:List Fl}{x:Fl}(h:x∈l):bg x.q<=wL bM l/\aZ x.old<=wL bM l:=by have h1:=iu (w:=bM) h;have h2:bM x=bg x.q+wL wO x.who+aZ x.old:=rfl;omega
def ahW(c:Ca):wL bM c.aD<=bh c:=by unfold bh;omega
def Uc(l:List Fl)(n:Nat)(x:Fl)(hn:n<=l.length)(hx:bg x.q<=1073741824)(hc:wL bM l<=100000000):aX (aA (ev LI TT) (aB TT) Bq) [(0,.row .af 13 (l.map (bE .af))),(4,.ptr .own (bE .af x)),(7,.row .af 13 (l.map (bE .af))),(8,.int .i64 l.length),(9,.int .i64 n),(35,.row .af 13 (l.map (bE .af))),(36,.int .i64 n),(37,.row .af 13 ((l.take n).map (bE .af))),(38,.int .i64 n),(39,.int .i64 0)]=if bT (λy=> !kU y.q x.q) (l.take n)=true then some (.exit 2,[(0,.row .af 13 (l.map (bE .af))),(4,.ptr .own (bE .af x)),(7,.row .af 13 (l.map (bE .af))),(8,.int .i64 l.length),(9,.int .i64 n),(35,.row .af 13 (l.map (bE .af))),(36,.int .i64 n),(37,.row .af 13 ((l.take n).map (bE .af))),(38,.int .i64 n),(39,.int .i64 (l.take n).length),(40,.bool false)]) else some (.ret,[(2,.bool false)]):=by
 refine lE (f:=aA (ev LI TT) (aB TT) Bq) (l.take n) (λi=>[(0,.row .af 13 (l.map (bE .af))),(4,.ptr .own (bE .af x)),(7,.row .af 13 (l.map (bE .af))),(8,.int .i64 l.length),(9,.int .i64 n),(35,.row .af 13 (l.map (bE .af))),(36,.int .i64 n),(37,.row .af 13 ((l.take n).map (bE .af))),(38,.int .i64 n),(39,.int .i64 i)]) (λy=> !kU y.q x.q) _ _ (λi b hi hl=>?_) ?_
 ·have hw:=cw i (by have:=bC (w:=bM) l;simp at hl;omega);obtain⟨_,rfl⟩:=aQ.1 hi;have h1:i<n:=by simp at hl;omega
  have h2:i<l.length:=by omega
  have h4:=SG (cU h2);have u1:=MS (l[i]).q x.q (by omega) hx;cases hal:kU (l[i]).q x.q<;>rw[hal] at u1<;>simp at u1;all_goals
  simp -implicitDefEqProofs [Bq,JQ,hl,hw,h1,h2,u1,hal];all_goals (repeat' split)<;>first|rfl|omega|(simp_all;done)|(simp_all;omega)|skip
 ·have hmin:min n l.length=n:=by omega
  simp -implicitDefEqProofs [Bq,JQ,hmin]
def Ud(l:List Fl)(hc:wL bM l<=100000000):aX (aA (ev LI TT) (aB TT) uI) [(0,.row .af 13 (l.map (bE .af))),(7,.row .af 13 (l.map (bE .af))),(8,.int .i64 l.length),(9,.int .i64 0)]=if bT (qh l) (l.zipIdx)=true then some (.exit 0,[(0,.row .af 13 (l.map (bE .af))),(7,.row .af 13 (l.map (bE .af))),(8,.int .i64 l.length),(9,.int .i64 (l.zipIdx).length),(10,.bool false)]) else some (.ret,[(2,.bool false)]):=by
 refine lE (f:=aA (ev LI TT) (aB TT) uI) (l.zipIdx) (λi=>[(0,.row .af 13 (l.map (bE .af))),(7,.row .af 13 (l.map (bE .af))),(8,.int .i64 l.length),(9,.int .i64 i)]) (qh l) _ _ (λi b hi hl=>?_) ?_
 ·have hw:=cw i (by have:=bC (w:=bM) l;simp at hl;omega);obtain⟨_,rfl⟩:=aQ.1 hi;simp only[Mj] at hl;have hz:l.zipIdx[i]'(by simpa using hl)=(l[i],i):=by simp
  have h4:=SG (cU hl);have hmin:min i l.length=i:=by omega
  have hle:(i:Int)<=l.length:=by omega
  have hle2:i<=l.length:=by omega
  rw[hz];unfold qh;have u1:=C4 (l[i]).q (by omega);try simp at u1
  have u2:=vX (l[i]).old (by omega);try simp at u2
  have u3:=Uc l i l[i] (by omega) (by omega) (by omega);try simp at u3
  generalize lN (l[i]).q=b1 at u1;cases b1;·simp -implicitDefEqProofs [uI,xx,hl,hw,u1]
  by_cases g2:1<=((l[i]).who.length:Int)/\((l[i]).who.length:Int)<=5;rotate_left
  ·simp only[uI,decide_eq_false g2,Bool.and_false,Bool.false_and];by_cases zz:1<=((l[i]).who.length:Int);·have Ic:¬((l[i]).who.length:Int)<=5:=λh=>g2 ⟨zz,h⟩;simp -implicitDefEqProofs [xx,hl,hw,u1,zz,Ic]
   ·simp -implicitDefEqProofs [xx,hl,hw,u1,zz]
  rw[decide_eq_true g2];obtain⟨zz,Ic⟩:=g2;generalize dJ (l[i]).old=b2 at u2;cases Px:(l[i]).gp;all_goals rw[Px] at u3
  all_goals cases b2
  all_goals cases g5:bT (λy:Fl=> !kU y.q (l[i]).q) (l.take i)<;>rw[g5] at u3
  all_goals try simp at u3
  all_goals try simp only[hmin] at u3
  all_goals
  simp -implicitDefEqProofs [uI,xx,hl,hw,u1,u2,u3,hmin,hle,hle2,zz,Ic,Px,g5];all_goals (repeat' split)<;>first|rfl|omega|(simp_all;done)|(simp_all;omega)|skip
 ·simp -implicitDefEqProofs [uI,xx]
def Wa(l:List Fl)(hc:wL bM l<=100000000):ev LI TT 28 [.row .af 13 (l.map (bE .af))]=some (.bool (zx l),[.dead]):=by
 rw[aF (b:=E6) (rs:=[.t 2]) (n:=1) rfl rfl];have u1:=Ud l hc;try simp at u1
 unfold zx;cases g6:bT (qh l) l.zipIdx<;>rw[g6] at u1;all_goals try simp at u1
 all_goals
 simp -implicitDefEqProofs [E6,u1];all_goals (repeat' split)<;>first|rfl|omega|(simp_all;done)|(simp_all;omega)|skip
def Vp(c:Ca)(hc:bh c<=100000000):ev LI TT 17 [.agg (aJ .af c)]=some (.bool (nB c),[.dead]):=by
 rw[aF (b:=qv) (rs:=[.t 2]) (n:=1) rfl rfl];have hsh:cR c.au<=bh c:=by unfold bh;omega
 have hfl:=ahW c;unfold nB;have u1:=VS c.au (by omega);try simp at u1
 have u2:=Wa c.aD (by omega);try simp at u2
 by_cases g1:0<=c.now;rotate_left;·simp -implicitDefEqProofs [qv,u1,g1]
 by_cases g2:c.now<=1000000;rotate_left;·simp -implicitDefEqProofs [qv,u1,g1,g2]
 by_cases g4:(c.seen.length:Int)<=1500;rotate_left;·simp -implicitDefEqProofs [qv,u1,g1,g2,g4]
 by_cases g5:(c.sent.length:Int)<=1500;rotate_left;·simp -implicitDefEqProofs [qv,u1,g1,g2,g4,g5]
 generalize zx c.aD=b2 at u2;cases b2;·simp -implicitDefEqProofs [qv,u1,u2,g1,g2,g4,g5]
 generalize gR c.au=b1 at u1;cases b1;all_goals
 simp -implicitDefEqProofs [qv,u1,u2,g1,g2,g4,g5];all_goals (repeat' split)<;>first|rfl|omega|(simp_all;done)|(simp_all;omega)|skip
end M
set_option maxHeartbeats 4000000
namespace M
open Go
variable [Lb]
end M
set_option maxHeartbeats 4000000
namespace M
open Go
variable [Lb]
def V4(d:bZ)(h1:d.cells.length<=1073741824)(h2:d.pending.length<=1073741824):ev LI TT 57 [.agg (gL .af d)]=some (.agg (gL .own d),[.dead]):=by
 rw[aF (b:=EX) (rs:=[.c 2 2 true 33]) (n:=1) rfl rfl];have u1:=Fs d.cells h1;try simp at u1
 have u2:=abR d.pending h2;try simp at u2
 simp -implicitDefEqProofs [EX,u1,u2];all_goals (repeat' split)<;>first|rfl|omega|(simp_all;done)|(simp_all;omega)|skip
def GU(ws:List Wr):Prop:=∀w∈ws,0<=w.at_/\w.at_<=19
def qQ{d:bZ}(h:fA d=true):GU d.pending/\d.cells.length=20/\d.pending.length<=16:=by simp only[fA,ax,bx] at h;refine⟨λw hw=>?_,by omega,by omega⟩;simpa [uU] using jM.1 h.1.1 w hw
def iR(d:bZ):bZ:=⟨qI (jY [] true) d.cells d.pending,[]⟩
def TQ(ws:List Wr)(hb:ws.length<=9223372036854775807)(ho:GU ws)(cs:List ah)(hinv:cs.length=20):aX (aA (ev LI TT) (aB TT) AM) [(0,.ai 100000 [] 0 0),(4,.ai 100000 [] 0 0),(5,.ai 100000 [] 0 0),(6,.ai 100000 [] 0 1),(7,.ref 100000 [(0,1)]),(8,.int .i64 ws.length),(9,.int .i64 0),(100000,.ptr .own [.row .own 1 ((cs).map eS),.row .own 2 (ws.map eW)])]=some (.exit 0,[(0,.ai 100000 [] 0 0),(4,.ai 100000 [] 0 0),(5,.ai 100000 [] 0 0),(6,.ai 100000 [] 0 1),(7,.ref 100000 [(0,1)]),(8,.int .i64 ws.length),(9,.int .i64 (ws).length),(10,.bool false),(100000,.ptr .own [.row .own 1 (((foldI (jZ (jY [] true)) 0 (ws) cs)).map eS),.row .own 2 (ws.map eW)])]):=by
 refine mR (f:=aA (ev LI TT) (aB TT) AM) (ws) (λi (cs:List ah)=>[(0,.ai 100000 [] 0 0),(4,.ai 100000 [] 0 0),(5,.ai 100000 [] 0 0),(6,.ai 100000 [] 0 1),(7,.ref 100000 [(0,1)]),(8,.int .i64 ws.length),(9,.int .i64 i),(100000,.ptr .own [.row .own 1 ((cs).map eS),.row .own 2 (ws.map eW)])]) (jZ (jY [] true)) (λcs=>[(0,.ai 100000 [] 0 0),(4,.ai 100000 [] 0 0),(5,.ai 100000 [] 0 0),(6,.ai 100000 [] 0 1),(7,.ref 100000 [(0,1)]),(8,.int .i64 ws.length),(9,.int .i64 (ws).length),(10,.bool false),(100000,.ptr .own [.row .own 1 ((cs).map eS),.row .own 2 (ws.map eW)])]) (λi (cs:List ah)=>cs.length=20) cs hinv (λi b cs hi hl hinv=>?_) (λi b cs hi hinv=>?_) (λcs hinv=>?_)
 ·have hw:=cw i (by first|omega|(simp at hl;omega));obtain⟨_,rfl⟩:=aQ.1 hi;have h1:=ho _ (cU hl);have h2:(ws[i]).at_.toNat<cs.length:=by omega
  simp -implicitDefEqProofs [AM,Jn,hl,hw,h1,h2,jZ,jY]
 ·rw[Ka];exact hinv
 ·simp -implicitDefEqProofs [AM,Jn]
def Hi(d:bZ)(h:fA d=true):ev LI TT 40 [.ptr .own (gL .own d)]=some (.aj [],[.ptr .own (gL .own (iR d))]):=by
 rw[aF (b:=Er) (rs:=[]) (n:=1) rfl rfl];obtain⟨h0,h1,h1'⟩:=qQ h;have h2:=TQ d.pending (by omega) h0 d.cells h1;try simp at h2
 simp -implicitDefEqProofs [Er,h1,h2,qI,iR];all_goals (repeat' split)<;>first|rfl|omega|(simp_all;done)|(simp_all;omega)|skip
def lM(d:bZ)(a:Int)(t:ah):bZ:=if 16<=(d.pending.length:Int) then ⟨(iR d).cells,[⟨a,t⟩]⟩ else ⟨d.cells,d.pending++[⟨a,t⟩]⟩
def FR(s:Sh)(a:Int)(t:ah):Sh:=⟨lM s.bp a t,s.aG,s.aW,s.next,s.seq⟩
def XJ{d:bZ}(h:fA d=true):fA (iR d)=true:=by obtain⟨h0,h1,h1'⟩:=qQ h;have:=Qe (jY [] true) d.cells d.pending;unfold fA iR;simp only[this,h1];rfl
def Na(s:Sh)(at_:Int)(t:ah)(h:fA s.bp=true):ev LI TT 112 [.ptr .own (bH .own s),.int .i64 at_,.str ⟨t.toArray⟩]=some (.aj [],[.ptr .own (bH .own (FR s at_ t)),.dead,.dead]):=by
 rw[aF (b:=Be) (rs:=[]) (n:=3) rfl rfl];obtain⟨h0,h1,h1'⟩:=qQ h;have h2:=Hi s.bp h;try simp at h2
 have h5:(s.bp.pending.length+1)*24<=140737488355328:=by omega
 unfold FR lM;by_cases g2:(16:Int)<=s.bp.pending.length;·simp -implicitDefEqProofs [Be,h2,g2,cZ,iR]
 simp -implicitDefEqProofs [Be,h5,g2,cZ];all_goals (repeat' split)<;>first|rfl|omega|(simp_all;done)|(simp_all;omega)|skip
def BK(a:Int):Int:=if a=19 then 5 else a+1
def Nh(a:Int)(h:5<=a/\a<=19):ev LI TT 78 [.int .i64 a]=some (.int .i64 (BK a),[.dead]):=by
 rw[aF (b:=Bk) (rs:=[.t 2]) (n:=1) rfl rfl];unfold BK;have hw:IntKind.i64.wrap (a+1)=a+1:=dN (by omega) (by omega);by_cases g:a=19;·subst g;have Z5:IntKind.i64.wrap 20=20:=dN (by omega) (by omega);simp -implicitDefEqProofs [Bk,Z5]
 have g2:¬a+1=20:=by omega
 simp -implicitDefEqProofs [Bk,hw,g,g2];all_goals (repeat' split)<;>first|rfl|omega|(simp_all;done)|(simp_all;omega)|skip
def kR(a b:Ob):Bool:=decide (a.path=b.path) && decide (a.names=b.names) && decide (a.values=b.values)
def Nj(a:Ob)(b:Ob)(ha:aZ a<=1073741824)(hb:aZ b<=1073741824):ev LI TT 77 [.agg (cD .af a),.agg (cD .af b)]=some (.bool (kR a b),[.dead,.dead]):=by
 rw[aF (b:=xy) (rs:=[.t 4]) (n:=2) rfl rfl];have hw:aZ a=a.path.length+wL wS a.names+wL wS a.values+aL a.resp:=rfl;have dW:aZ b=b.path.length+wL wS b.names+wL wS b.values+aL b.resp:=rfl;have l1:=bC (w:=wS) a.names;have l2:=bC (w:=wS) a.values;unfold kR;have u1:=yY a.names b.names (by omega);try simp at u1
 have u2:=yY a.values b.values (by omega);try simp at u2
 by_cases g:a.path=b.path;rotate_left;·simp -implicitDefEqProofs [xy,eq_false g]
 by_cases g2:a.names=b.names;rotate_left;·rw[decide_eq_false g2] at u1;simp -implicitDefEqProofs [xy,eq_true g,u1,eq_false g2]
 rw[decide_eq_true g2] at u1;simp -implicitDefEqProofs [xy,u1,u2,eq_true g,eq_true g2];all_goals (repeat' split)<;>first|rfl|omega|(simp_all;done)|(simp_all;omega)|skip
end M
namespace M
open Go
variable [Lb]
def kQ(g:Nat×Nat)(b:UInt8):Nat×Nat:=((g.1+b.toNat)%65521,(g.2+(g.1+b.toNat)%65521)%65521)
def K2(g:Nat×Nat)(b:UInt8):(kQ g b).1<65521/\(kQ g b).2<65521:=⟨om _ (by decide),om _ (by decide)⟩
def afj(g:Nat×Nat)(b:UInt8)(h:g.1<65521/\g.2<65521):(IntKind.i64.wrap (↑g.1+IntKind.i64.wrap ↑b.toNat)).tmod 65521=↑(kQ g b).1/\
  (IntKind.i64.wrap (↑g.2+(IntKind.i64.wrap (↑g.1+IntKind.i64.wrap ↑b.toNat)).tmod 65521)).tmod 65521=↑(kQ g b).2:=by
 have hb:=b.toNat_lt;have e1:IntKind.i64.wrap (↑g.1+IntKind.i64.wrap ↑b.toNat)=((g.1+b.toNat:Nat):Int):=by rw[dN (n:=(b.toNat:Int)) (by omega) (by omega),dN (by omega) (by omega)];omega
 have e2:(((g.1+b.toNat:Nat):Int)).tmod 65521=↑(kQ g b).1:=by rw[GA (by omega)];unfold kQ;omega
 have h1:=(K2 g b).1;have e3:IntKind.i64.wrap (↑g.2+(↑(kQ g b).1:Int))=((g.2+(kQ g b).1:Nat):Int):=by rw[dN (by omega) (by omega)];omega
 rw[e1,e2,e3];refine⟨rfl,?_⟩;rw[GA (by omega)];unfold kQ;omega
def n7(s:ah):Nat×Nat:=foldI (λ_ g b=>kQ g b) 0 s (1,0)
def OO{γ β:Type}{go:Nat->γ->β->γ}{I:γ->Prop}(h:∀i g b,I g->I (go i g b)):∀(l:List β) (i:Nat) (g:γ),I g->I (foldI go i l g)
 |[],_,_,hg=>hg
 |b::l,i,g,hg=>OO h l (i+1) _ (h i g b hg)
def R9(s:ah):(n7 s).1<65521/\(n7 s).2<65521:=OO (I:=λg=>g.1<65521/\g.2<65521) (λ_ g b _=>K2 g b) s 0 _ (by simp)
def tc(s:ah):Nat:=65521*(n7 s).2+(n7 s).1
def K1(s:ah):tc s<10^10:=by have:=R9 s;unfold tc;omega
def T6(s:ah)(hb:s.length<=9223372036854775807)(g:Nat×Nat)(hinv:g.1<65521/\g.2<65521):aX (aA (ev LI TT) (aB TT) Bf) [(0,.str ⟨s.toArray⟩),(3,.int .i64 (g).1),(4,.int .i64 (g).2),(5,.int .i64 0)]=some (.exit 0,[(0,.str ⟨s.toArray⟩),(3,.int .i64 ((foldI (λ_ g b=>kQ g b) 0 (s) g)).1),(4,.int .i64 ((foldI (λ_ g b=>kQ g b) 0 (s) g)).2),(5,.int .i64 (s).length),(9,.bool false)]):=by
 refine mR (f:=aA (ev LI TT) (aB TT) Bf) (s) (λi (g:Nat×Nat)=>[(0,.str ⟨s.toArray⟩),(3,.int .i64 (g).1),(4,.int .i64 (g).2),(5,.int .i64 i)]) (λ_ g b=>kQ g b) (λg=>[(0,.str ⟨s.toArray⟩),(3,.int .i64 (g).1),(4,.int .i64 (g).2),(5,.int .i64 (s).length),(9,.bool false)]) (λi (g:Nat×Nat)=>g.1<65521/\g.2<65521) g hinv (λi b g hi hl hinv=>?_) (λi b g hi hinv=>?_) (λg hinv=>?_);·have hw:=cw i (by first|omega|(simp at hl;omega));obtain⟨_,rfl⟩:=aQ.1 hi;skip;simp -implicitDefEqProofs [Bf,JF,hl,hw];exact afj g s[i] hinv
 ·exact K2 _ _
 ·simp -implicitDefEqProofs [Bf,JF]
def V2(s:ah)(hb:s.length<=9223372036854775807):ev LI TT 145 [.str ⟨s.toArray⟩]=some (.int .i64 (tc s),[.dead]):=by rw[aF (b:=EN) (rs:=[.t 2]) (n:=1) rfl rfl];have h:=T6 s hb (1,0) (by simp);have h2:=R9 s;have e1:IntKind.i64.wrap (65521*((n7 s).2:Int))=65521*(n7 s).2:=dN (by omega) (by omega);have e2:IntKind.i64.wrap (65521*((n7 s).2:Int)+(n7 s).1)=65521*(n7 s).2+(n7 s).1:=dN (by omega) (by omega);rw[show foldI (λ_ g b=>kQ g b) 0 s (1,0)=n7 s from rfl] at h;simp at h;simp -implicitDefEqProofs [EN,h,e1,e2,tc];all_goals (repeat' split)<;>first|rfl|omega|(simp_all;done)|(simp_all;omega)|skip
def KK(n:Nat)(b:ah):ah:=bG (tc (bG n++32::(bG b.length++10::b)))++32::(bG n++32::(bG b.length++10::b))
def ew(n:Int)(b:ah):ah:=if 1<=n/\n<=100000/\b.length<=2000 then KK n.toNat b else []
def Ho(n:Int)(b:ah)(hb:b.length<=9223372036854775807):ev LI TT 108 [.int .i64 n,.str ⟨b.toArray⟩]=some (.str ⟨(ew n b).toArray⟩,[.dead,.dead]):=by
 rw[aF (b:=xj) (rs:=[.t 4]) (n:=2) rfl rfl];by_cases h1:¬(1<=n/\n<=100000)
 ·have h1':¬(1<=n/\n<=100000/\b.length<=2000):=by omega
  simp -implicitDefEqProofs [xj,h1,ew,h1']
 by_cases h2:2000<b.length
 ·have h1':¬(1<=n/\n<=100000/\b.length<=2000):=by omega
  have mG:(2000:Int)<b.length:=by omega
  simp -implicitDefEqProofs [xj,h1,ew,h1',h2,mG]
 obtain⟨m,rfl⟩:∃m:Nat,n=m:=⟨n.toNat,by omega⟩;have l1:=wm 5 m (by omega);have l2:=wm 5 b.length (by omega);have l3:=wm 17 (tc (bG m++32::(bG b.length++10::b))) (Nat.lt_trans (K1 _) (by decide));have k1:=tO m (by omega);have k2:=tO b.length (by omega);have k4:=tO (tc (bG m++32::(bG b.length++10::b))) (by have:=K1 (bG m++32::(bG b.length++10::b));omega);have k3:=V2 (bG m++32::(bG b.length++10::b)) (by simp;omega);have mG:¬(2000<(b.length:Int)):=by omega
 have h3:1<=m/\m<=100000:=by omega
 have h4:b.length<=2000:=by omega
 simp -implicitDefEqProofs [xj,mG,h3,h4,k1,k2,k3,k4,s8,ew,KK];repeat rw[aq (by omega)]
end M
namespace M
open Go
variable [Lb]
def HD{c:UInt8}:∀{s:ah} {p:ah×ah},eu c s=some p->s=p.1++c::p.2
 |[],p,h=>by cases h
 |b::s,p,h=>by
  unfold eu at h;split at h;·rename_i hb;cases h;simp[hb]
  ·cases hc:eu c s with
   |none=>rw[hc] at h;cases h
   |some q=>rw[hc] at h;cases h;simp[<-HD hc]
def NO{s:ah}{p:ah×ah}(h:eu 10 s=some p):p.2.length<s.length/\s.drop (s.length - p.2.length)=p.2/\p.1.length<s.length:=by
 have he:=HD h;have hl:=dw List.length he;simp at hl;refine⟨by omega,?_,by omega⟩;have:s.length - p.2.length=(p.1++[10]).length:=by simp;omega
 rw[this,he];have e:p.1++10::p.2=(p.1++[10])++p.2:=by simp
 rw[e,GD]
end M
namespace M
open Go
variable [Lb]
def cY(s:ah):Int×ah×Bool:=match eu 10 s with
 |some (l,b)=>match ct 32 l with
  |[_,w,_]=>if ew ((cy w).getD 0:Nat) b=s then ((((cy w).getD 0:Nat):Int),b,true) else (0,[],false)
  |_=>(0,[],false)
 |none=>(0,[],false)
def M5(s:ah)(hb:s.length<=1073741824):ev LI TT 117 [.str ⟨s.toArray⟩]=some (.aj [.int .i64 ((cY s).1),.str ⟨((cY s).2.1).toArray⟩,.bool ((cY s).2.2)],[.dead]):=by
 rw[aF (b:=nQ) (rs:=[.t 2,.t 3,.t 4]) (n:=1) rfl rfl];have u1:=vY s [10] (by omega);have ec:=Di 10 s;unfold cY;cases hc:eu 10 s with
 |none=>rw[hc] at ec;have u2:=tP s 32 (by omega);simp only at ec;rw[ec] at u1;simp at u1 u2;simp -implicitDefEqProofs [nQ,u1,u2]
 |some p=>
 obtain⟨l,b⟩:=p;rw[hc] at ec;simp only at ec;rw[ec] at u1;have hd:=NO hc;simp only at hd;obtain⟨d1,d2,d3⟩:=hd;have u2:=tP l 32 (by omega);have d6:¬s=[]:=by rintro rfl;simp at d1
 have hm:=yj 32 l;simp only at u1;rcases hw:ct 32 l with _|⟨w0,_|⟨w1,_|⟨w2,_|⟨w3,ws⟩⟩⟩⟩;·exact absurd hw (F6 32 l)
 ·rw[hw] at u2;simp at u1 u2;simp -implicitDefEqProofs [nQ,u1,u2,hw]
 ·rw[hw] at u2;simp at u1 u2;simp -implicitDefEqProofs [nQ,u1,u2,hw]
 rotate_left
 ·rw[hw] at u2;have hn:¬((ws.length:Int)+1+1+1+1=3):=by omega
  simp at u1 u2;simp -implicitDefEqProofs [nQ,u1,u2,hw,hn]
 have hw1:=hm w1 (by rw[hw];simp);rw[hw] at u2;have u3:=tL w1 (by omega);cases hq:cy w1 with
 |none=>
  rw[hq] at u3;have g:¬ew ((0:Nat):Int) b=s:=by rw[show ew ((0:Nat):Int) b=[] by unfold ew;rw[az (by omega)]];exact λh=>d6 h.symm
  simp at u1 u2 u3 g;simp -implicitDefEqProofs [nQ,u1,u2,hw,hq,u3,eq_false g]
 |some n=>
 rw[hq] at u3;have u4:=Ho (n:Int) b (by omega);simp at u1 u2 u3;by_cases h0:n=0
 ·subst h0;have g:¬ew ((0:Nat):Int) b=s:=by rw[show ew ((0:Nat):Int) b=[] by unfold ew;rw[az (by omega)]];exact λh=>d6 h.symm
  simp at g;simp -implicitDefEqProofs [nQ,u1,u2,hw,hq,u3,eq_false g]
 by_cases g:ew (n:Int) b=s;·simp -implicitDefEqProofs [nQ,u1,u2,hw,hq,u3,u4,h0,eq_true g]
 simp -implicitDefEqProofs [nQ,u1,u2,hw,hq,u3,u4,h0,eq_false g];all_goals (repeat' split)<;>first|rfl|omega|(simp_all;done)|(simp_all;omega)|skip
end M
set_option maxHeartbeats 4000000
namespace M
open Go
variable [Lb]
def q9:ah:=[112,97,116,104]
def q6:ah:=[98,101,108,111,119]
def q7:ah:=[102,105,101,108,100]
def lX(k:Int):ah:=if k=1 then q9 else if k=2 then q6 else q7
def uL(w:ah):Int:=if w=q9 then 1 else if w=q6 then 2 else if w=q7 then 3 else 0
def fT(b:Bn):ah:=if eT b=true then [98,97,110]++32::(lX b.kind++32::(dZ b.t++32::(b.a++if b.kind=3 then 10::b.b else []))) else []
def UX{b:Bn}(h:eT b=true):b.kind=1\/b.kind=2\/b.kind=3:=by
 unfold eT at h;by_cases h1:b.kind=1;·exact Or.inl h1
 by_cases h2:b.kind=2;·exact Or.inr (Or.inl h2)
 by_cases h3:b.kind=3;·exact Or.inr (Or.inr h3)
 simp[h1,h2,h3] at h
def ah2(k:Int):(lX k).length<=5:=by unfold lX;(repeat' split)<;>simp[q9,q6,q7]
def C6(k:Int)(hk:k=1\/k=2\/k=3):ev LI TT 147 [.int .i64 k]=some (.str ⟨(lX k).toArray⟩,[.dead]):=by
 rw[aF (b:=EV) (rs:=[.t 2]) (n:=1) rfl rfl];rcases hk with rfl|rfl|rfl;all_goals
 simp -implicitDefEqProofs [EV,lX,q9,q6,q7,F4,yg,Ke,dN];all_goals (repeat' split)<;>first|rfl|omega|(simp_all;done)|(simp_all;omega)|skip
def MU(b:Bn)(hb:bK b<=1073741824):ev LI TT 115 [.agg (dH b)]=some (.str ⟨(fT b).toArray⟩,[.dead]):=by
 rw[aF (b:=Ak) (rs:=[.t 2]) (n:=1) rfl rfl];obtain⟨kd,a0,b0,t0⟩:=b;have hw:bK ⟨kd,a0,b0,t0⟩=a0.length+b0.length:=rfl;have l1:=BL t0;have l2:=ah2 kd;unfold fT;have u1:=C0 ⟨kd,a0,b0,t0⟩ hb;try simp at u1
 have u2:=Hj t0;try simp at u2
 by_cases g:eT ⟨kd,a0,b0,t0⟩=true;rotate_left;·simp -implicitDefEqProofs [Ak,u1,u2,g]
 rw[g] at u1;have u3:=C6 kd (UX g);try simp at u3
 by_cases h:kd=3;all_goals (try subst h)
 all_goals
 simp -implicitDefEqProofs [Ak,u1,u2,u3,g,s8];all_goals (try simp only[*,not_false_eq_true,gW,rB])
 all_goals (repeat rw[aq (by omega)])
 all_goals (try simp)
 all_goals first|done|omega|(refine⟨by omega,by omega,?_⟩;rw[show (⟨#[10]⟩:ByteArray)=⟨([10]:ah).toArray⟩ from rfl,s8,s8];simp;done)|skip
end M
set_option maxHeartbeats 4000000
namespace M
open Go
variable [Lb]
def mo:List ah:=[q9,q6,q7]
def BA(w:ah)(i:Nat)(g:Int)(b:ah):Int:=if b=w then ((1+i:Nat):Int) else g
def abW(w:ah):foldI (BA w) 0 mo 0=uL w:=by
 unfold uL BA;simp only[mo,foldI];by_cases h1:w=q9;·subst h1;rfl
 by_cases h2:w=q6;·subst h2;rfl
 by_cases h3:w=q7;·subst h3;rfl
 simp[h1,h2,h3,vB h1,vB h2,vB h3,eq_comm (b:=w)]
def TM(s w0 w1 w2 w3 v:ah)(is:Bool)(n:Int)(g:Int)(hinv:True):aX (aA (ev LI TT) (aB TT) Aj) [(0,.str ⟨s.toArray⟩),(2,.ptr .own [.int .i64 0,.str ⟨#[]⟩,.str ⟨#[]⟩,.int .i64 0]),(7,.row .own 1 ([w0,w1,w2,w3].map eS)),(9,.bool is),(10,.ptr .own [.int .i64 g,.str ⟨w3.toArray⟩,.str ⟨v.toArray⟩,.int .i64 n]),(11,.int .i64 ((1+0:Nat):Int))]=some (.exit 0,[(0,.str ⟨s.toArray⟩),(2,.ptr .own [.int .i64 0,.str ⟨#[]⟩,.str ⟨#[]⟩,.int .i64 0]),(7,.row .own 1 ([w0,w1,w2,w3].map eS)),(9,.bool is),(10,.ptr .own [.int .i64 (foldI (BA w1) 0 (mo) g),.str ⟨w3.toArray⟩,.str ⟨v.toArray⟩,.int .i64 n]),(11,.int .i64 4),(38,.bool false)]):=by
 refine mR (f:=aA (ev LI TT) (aB TT) Aj) (mo) (λi (g:Int)=>[(0,.str ⟨s.toArray⟩),(2,.ptr .own [.int .i64 0,.str ⟨#[]⟩,.str ⟨#[]⟩,.int .i64 0]),(7,.row .own 1 ([w0,w1,w2,w3].map eS)),(9,.bool is),(10,.ptr .own [.int .i64 g,.str ⟨w3.toArray⟩,.str ⟨v.toArray⟩,.int .i64 n]),(11,.int .i64 ((1+i:Nat):Int))]) (BA w1) (λg=>[(0,.str ⟨s.toArray⟩),(2,.ptr .own [.int .i64 0,.str ⟨#[]⟩,.str ⟨#[]⟩,.int .i64 0]),(7,.row .own 1 ([w0,w1,w2,w3].map eS)),(9,.bool is),(10,.ptr .own [.int .i64 g,.str ⟨w3.toArray⟩,.str ⟨v.toArray⟩,.int .i64 n]),(11,.int .i64 4),(38,.bool false)]) (λi (g:Int)=>True) g hinv (λi b g hi hl hinv=>?_) (λi b g hi hinv=>?_) (λg hinv=>?_)
 ·have hw:=cw i (by simp[mo] at hl;omega);obtain⟨_,rfl⟩:=aQ.1 hi;have h3:i=0\/i=1\/i=2:=by simp[mo] at hl;omega
  have b1:=C6 1 (by omega);have b2:=C6 2 (by omega);have b3:=C6 3 (by omega);simp only[lX,eL,show ¬((2:Int)=1) by omega,show ¬((3:Int)=1) by omega,show ¬((3:Int)=2) by omega,gW] at b1 b2 b3;try simp at b1
  try simp at b2
  try simp at b3
  by_cases hq:mo[i]=w1;all_goals rcases h3 with rfl|rfl|rfl
  all_goals simp only[mo,Ts,List.getElem_cons_succ] at hq
  all_goals
  simp -implicitDefEqProofs [Aj,Ja,hl,hw,BA,hq,mo,dN,b1,b2,b3]
 ·trivial
 ·simp -implicitDefEqProofs [Aj,Ja,mo]
def zB:Bn:=⟨0,[],[],0⟩
def jN(s:ah):ah×ah:=match eu 10 s with
 |some p=>p
 |none=>(s,[])
def vT(s v:ah)(ws:List ah):Bn×Bool:=match ws with
 |[_,w,t,a]=>if fT ⟨uL w,a,v,((cy t).getD 0:Nat)⟩=s then (⟨uL w,a,v,((cy t).getD 0:Nat)⟩,true) else (zB,false)
 |_=>(zB,false)
def iO(s:ah):Bn×Bool:=vT s (jN s).2 (ct 32 (jN s).1)
def U7{s v:ah}{ws:List ah}(h:ws.length≠4):vT s v ws=(zB,false):=by
 unfold vT;split;·simp at h
 ·rfl
def Qg{ws:List ah}(h:ws.length=4):∃a b c d,ws=[a,b,c,d]:=by
 match ws,h with
 |[a,b,c,d],_=>exact⟨a,b,c,d,rfl⟩
def UW(s:ah):(jN s).1.length<=s.length/\(jN s).2.length<=s.length:=by
 unfold jN;cases h:eu 10 s with
 |none=>simp
 |some p=>have:=dw List.length (HD h);simp at this⊢;omega
def NN:∀(p r:ah),(∀b∈p,b≠10)->eu 10 (p++r)=(eu 10 r).map λq=>(p++q.1,q.2)
 |[],r,_=>by simp
 |b::p,r,h=>by rw[gE,eu,az (h b (bz ..)),NN p r λx hx=>h x (cE _ hx)];cases eu 10 r<;>simp
def UU(p r:ah)(h:∀b∈p,b≠10):(jN (p++r)).1=p++(jN r).1:=by unfold jN;rw[NN p r h];cases eu 10 r<;>simp
def KX(w r:ah)(h:∀b∈w,b≠32):ct 32 (w++32::r)=w::ct 32 r:=by rw[F5 32 w _ h];simp[ct]
def SM(k:Int):∀b∈lX k,b≠32/\b≠10:=by unfold lX;(repeat' split)<;>simp[q9,q6,q7]
def U8{s w0 w1 w2 w3 v a:ah}{k:Int}(h:fT ⟨k,a,v,0⟩=s)(hs:ct 32 (jN s).1=[w0,w1,w2,w3]):cy w2≠none\/s=[]:=by
 unfold fT at h;split at h
 ·left;have e:dZ 0=[48]:=by simp[dZ,HI]
  rw[e] at h;simp only at h;have e2:s=([98,97,110,32]++(lX k++[32,48,32]))++(a++if k=3 then 10::v else []):=by rw[<-h];simp
  rw[e2,UU _ _ (by intro b hb;simp at hb;rcases hb with rfl|rfl|rfl|rfl|hb|rfl|rfl|rfl<;>first|decide|exact(SM k b hb).2)] at hs;have e3:[98,97,110,32]++(lX k++[32,48,32])++(jN (a++if k=3 then 10::v else [])).1=[98,97,110]++32::(lX k++32::([48]++32::(jN (a++if k=3 then 10::v else [])).1)):=by simp
  rw[e3,KX _ _ (by decide),KX _ _ (λb hb=>(SM k b hb).1),KX _ _ (by decide)] at hs;simp only[nk] at hs;obtain⟨_,_,rfl,_⟩:=hs;simp[cy,td,HI]
 ·right;exact h.symm
def Vm(s:ah)(hb:s.length<=1048576):ev LI TT 119 [.str ⟨s.toArray⟩]=some (.aj [.agg (dH ((iO s).1)),.bool ((iO s).2)],[.dead]):=by
 rw[aF (b:=uz) (rs:=[.c 2 4 true 49,.t 3]) (n:=1) rfl rfl];have u1:=vY s [10] (by omega);have ec:=Di 10 s;have bl:=UW s;unfold iO
 have hX:∃l v k,jN s=(l,v)/\ev LI TT 148 [.str ⟨s.toArray⟩,.str ⟨#[10]⟩]=some (.aj [.str ⟨l.toArray⟩,.str ⟨v.toArray⟩,.bool k],[.dead,.dead]):=by
  unfold jN;cases hc:eu 10 s with
  |none=>rw[hc] at ec;simp only at ec;rw[ec] at u1;exact⟨s,[],_,rfl,u1⟩
  |some p=>rw[hc] at ec;simp only at ec;rw[ec] at u1;exact⟨p.1,p.2,_,rfl,u1⟩
 clear u1 ec;obtain⟨l,v,k,he,u1⟩:=hX;have hz:=λw0 w1 w2 w3 v a k=>U8 (s:=s) (w0:=w0) (w1:=w1) (w2:=w2) (w3:=w3) (v:=v) (a:=a) (k:=k);rw[he] at bl hz⊢;simp only at bl hz⊢;have u2:=tP l 32 (by omega);have hm:=yj 32 l;by_cases h4:(ct 32 l).length=4;rotate_left
 ·rw[U7 h4];have Ij:¬(((ct 32 l).length:Int)=4):=by omega
  try simp at u2
  simp -implicitDefEqProofs [uz,u1,u2,Ij,zB]
 obtain⟨w0,w1,w2,w3,hw⟩:=Qg h4;rw[hw] at u2 hm hz⊢;have u3:=tL w2 (by have:=hm w2 (by simp);omega);have u4:=MU ⟨uL w1,w3,v,((cy w2).getD 0:Nat)⟩ (by have:=hm w3 (by simp);simp only[bK];omega);have u5:=TM s w0 w1 w2 w3 v (cy w2).isSome ((cy w2).getD 0:Nat) 0 trivial;rw[abW] at u5;unfold vT;cases hn:cy w2 with
 |none=>
  rw[hn] at u3 u4 u5
  have g:¬fT ⟨uL w1,w3,v,0⟩=s:=by
   intro g;rcases hz _ _ _ _ _ _ _ g rfl with h|h;·exact h hn
   ·subst h;rw[show jN []=([],[]) from rfl] at he;obtain⟨rfl,rfl⟩:=CB he;simp[ct] at h4
  simp[mo,q9,q6,q7] at u2 u3 u4 u5 g;simp -implicitDefEqProofs [uz,u1,u2,u3,u4,u5,hn,eq_false g,zB]
 |some n=>
 rw[hn] at u3 u4 u5;simp[mo,q9,q6,q7] at u2 u3 u4 u5;by_cases g:fT ⟨uL w1,w3,v,(n:Int)⟩=s;·simp -implicitDefEqProofs [uz,u1,u2,u3,u4,u5,hn,eq_true g,zB]
 simp -implicitDefEqProofs [uz,u1,u2,u3,u4,u5,hn,eq_false g,zB];all_goals (repeat' split)<;>first|rfl|omega|(simp_all;done)|(simp_all;omega)|skip
end M
set_option maxHeartbeats 4000000
namespace M
open Go
variable [Lb]
def Rh{s:ah}(h:(cY s).2.2=false):cY s=(0,[],false):=by
 unfold cY at h⊢;(repeat' split at h)<;>first|(cases h;done)|skip
 all_goals (repeat' split)<;>simp_all
def FU{s:ah}(h:(cY s).2.2=true):1<=(cY s).1/\(cY s).1<=100000/\(cY s).2.1.length<=2000/\ew (cY s).1 (cY s).2.1=s/\s≠[]:=by
 unfold cY at h⊢;cases hc:eu 10 s with
 |none=>simp[hc] at h
 |some p=>
  obtain⟨l,b⟩:=p;have hs:s≠[]:=by rintro rfl;simp[eu] at hc
  simp only[hc] at h⊢;split at h
  ·rename_i w0 w w2 hw;split at h
   ·rename_i g;simp only[hw,g,eL];have g2:=g;unfold ew at g;split at g;·rename_i c;exact⟨c.1,c.2.1,c.2.2,by trivial,hs⟩
    ·exact absurd g.symm hs
   ·cases h
  ·cases h
def Rf(s:ah):(cY s).2.1.length<=2000:=by
 cases h:(cY s).2.2;·rw[Rh h];simp
 ·exact(FU h).2.2.1
def Lc{s:ah}(h:gD s=true):s.length<=20:=by unfold gD at h;simp only[ax,bx] at h;omega
def Lj{s:ah}(h:ji s=true):s.length<=60:=by unfold ji at h;simp only[ax,bx] at h;omega
def Q0{s:ah}(h:kO s=true):s.length<=60:=by unfold kO at h;simp only[ax,bx] at h;omega
def q8{α:Type}{w:α->Nat}{l:List α}{n m:Nat}(h:∀x∈l,w x<=n)(hl:l.length<=m):wL w l<=m*(n+1):=by
 suffices H:wL w l<=l.length*(n+1) from mc H (ke _ hl)
 clear hl;induction l with
 |nil=>simp[wL]
 |cons x l ih=>have h1:=h x (bz ..);have h2:=ih λy hy=>h y (cE _ hy);simp only[wL,cV,bq,Cz,fe,vA] at h2⊢;omega
def FW{r:aU}(h:eZ r=true):aL r<=800:=by
 have A:=KN h;have h1:wL aN r.fields<=8*(80+1):=q8 (λf hf=>by have:=HS A.f hf;have h1:=Lc this.1;have h2:=Lj this.2.1;simp only[aN];omega) (On A.f)
 have h2:=A.b;simp only[aL];omega
def BM{o:Ob}(h:dJ o=true):aZ o<=1300:=by
 have A:=FO h;have h1:=FW A.resp;have h2:=Q0 A.path;have hn:∀x∈o.names,x.length<=20:=by have:=A.names;unfold o9 at this;simp only[ax] at this;exact λx hx=>Lc (jM.1 this.1 x hx)
 have h3:wL wS o.names<=4*(20+1):=q8 hn A.n4;have h4:wL wS o.values<=4*(60+1):=q8 (λx hx=>Lj (A.vals x hx)) (by have:=A.len;have:=A.n4;omega);simp only[aZ];omega
def QJ{s:ah}(h:(jD s).2=true):dJ (jD s).1=true/\fy (jD s).1=s:=by have:=Re h;refine⟨this.1,?_⟩;have h2:dJ (jD s).1=true:=this.1;unfold fy;rw[aq h2];exact this.2
def ac0(s:ah):aZ (jD s).1<=1300:=by
 cases h:(jD s).2;·have:jD s=(iX,false):=Rc h;rw[this];decide
 ·exact BM (QJ h).1
def UY{b:Bn}(h:eT b=true):bK b<=120:=by
 unfold eT at h;simp only[ax,bx] at h;obtain⟨_,h⟩:=h;split at h;·simp only[ax,bx] at h;have:=Q0 h.1;simp[bK,h.2];omega
 ·split at h;·simp only[ax] at h;have h1:=Lc h.1;have h2:=Lj h.2;simp only[bK];omega
  ·cases h
def U5{b:Bn}(h:fT b≠[]):eT b=true:=by
 unfold fT at h;split at h;·assumption
 ·exact absurd rfl h
def U0{s:ah}(h:(iO s).2=true)(hs:s≠[]):eT (iO s).1=true/\fT (iO s).1=s:=by
 unfold iO vT at h⊢;split at h
 ·split at h;·rename_i hw hg;simp only[hw,hg,eL];exact⟨U5 (by rw[hg];exact hs),trivial⟩
  ·cases h
 ·cases h
def UZ:iO []=(zB,false):=by simp[iO,vT,jN,eu,ct]
def U4{s:ah}(h:(iO s).2=true):eT (iO s).1=true/\fT (iO s).1=s:=by refine U0 h ?_;rintro rfl;rw[UZ] at h;cases h
def BJ(m n:Int):Int:=if n<100000 then max m n else m
def nU(d:bZ)(i:Nat)(g:List Bn×Int)(_:Nat):(List Bn×Int) ⊕ ((List Bn×Int)×Int×Bn×Nat):=
 if (cY (dV d i)).2.2=true/\(iO (cY (dV d i)).2.1).2=true then .inl (g.1++[(iO (cY (dV d i)).2.1).1],BJ g.2 (cY (dV d i)).1) else .inr (g,(cY (dV d i)).1,(iO (cY (dV d i)).2.1).1,i)
def G7{α β:Type}:α ⊕ (α×β)->α
 |.inl a=>a
 |.inr a=>a.1
def gw(d:bZ):List Bn×Int:=G7 (iI (nU d) 0 (List.range 5) ([],0))
noncomputable def xQ(bs:List Bn)(d:bZ)(i:Nat)(g:List Kp×Int)(_:Nat):List Kp×Int:=
 if (cY (dV d ((5+i:Nat):Int))).2.2=true/\(jD (cY (dV d ((5+i:Nat):Int))).2.1).2=true/\(cY (dV d ((5+i:Nat):Int))).1<100000 then
  (if jx bs (jD (cY (dV d ((5+i:Nat):Int))).2.1).1=true then g.1 else g.1++[⟨(jD (cY (dV d ((5+i:Nat):Int))).2.1).1,((5+i:Nat):Int),(cY (dV d ((5+i:Nat):Int))).1⟩],max g.2 (cY (dV d ((5+i:Nat):Int))).1)
 else g
noncomputable def o7(bs:List Bn)(d:bZ)(m:Int):List Kp×Int:=foldI (xQ bs d) 0 (List.range 15) ([],m)
def Fx(all:List Kp)(i:Nat)(k:Kp):Bool:=(all.drop (i+1)).any λx=>decide (x.seq=k.seq)||kR x.obj k.obj
def xL(all:List Kp)(i:Nat)(g:List Kp×Int)(k:Kp):List Kp×Int:=if Fx all i k=true then g else (g.1++[k],BK k.at_)
def jB:List Kp->List Kp
 |[]=>[]
 |k::l=>if (l.any λx=>decide (x.seq=k.seq)||kR x.obj k.obj)=true then jB l else k::jB l
def FF(l:List Kp):Int:=l.getLast?.elim 5 λk=>BK k.at_
def qJ(all:List Kp):List Kp×Int:=(jB all,FF (jB all))
def Fw:∀l:List Kp,List.Sublist (jB l) l
 |[]=>List.Sublist.refl _
 |k::l=>by
  unfold jB;split;·exact(Fw l).trans (List.sublist_cons_self ..)
  ·exact(Fw l).cons_cons k
def Qf(all:List Kp):∀(l:List Kp) (i:Nat) (g:List Kp×Int),all.drop i=l->foldI (xL all) i l g=(g.1++jB l,if jB l=[] then g.2 else FF (jB l))
 |[],i,g,_=>by simp[foldI,jB]
 |k::l,i,g,h=>by
  have hd:all.drop (i+1)=l:=by rw[<-List.drop_drop,h];rfl
  rw[foldI,Qf all l (i+1) _ hd];unfold xL Fx;rw[hd];rw[show jB (k::l)=(if (l.any λx=>decide (x.seq=k.seq)||kR x.obj k.obj)=true then jB l else k::jB l) from rfl];split;·rfl
  ·simp only[rA,Ti,reduceCtorEq,gW];congr 1;cases hL:jB l with
   |nil=>simp[FF]
   |cons a L=>simp[FF]
def abX(all:List Kp):foldI (xL all) 0 all ([],5)=qJ all:=by
 rw[Qf all all 0 _ rfl];unfold qJ;simp only[j9];congr 1;split;·rename_i h;rw[h];rfl
 ·rfl
noncomputable def o6(d:bZ):List Kp×Int:=o7 (gw d).1 d (gw d).2
noncomputable def kK(d:bZ):List Kp:=pM Kp.seq (o6 d).1
noncomputable def xR(d:bZ):Sh:=⟨d,(qJ (kK d)).1,(gw d).1,(qJ (kK d)).2,(o6 d).2+1⟩
structure GI (k:Kp):Prop where
 o:dJ k.obj=true
 a:5<=k.at_/\k.at_<=19
 s:1<=k.seq/\k.seq<100000
def Km(d:bZ){i:Nat}{g:List Bn×Int}(hg:(∀b∈g.1,eT b=true)/\g.1.length<=i/\0<=g.2/\g.2<100000){x:Nat}:
  (∀g',nU d i g x=.inl g'->(∀b∈g'.1,eT b=true)/\g'.1.length<=i+1/\0<=g'.2/\g'.2<100000)/\∀e,nU d i g x=.inr e->e.1=g:=by
 unfold nU;by_cases c:(cY (dV d i)).2.2=true/\(iO (cY (dV d i)).2.1).2=true
 ·rw[aq c];refine⟨λg' h=>?_,λe h=>by cases h⟩;have r:=FU c.1;have b:=U4 c.2;cases h;refine⟨λy hy=>?_,by simp;omega,?_,?_⟩
  ·rcases fP.1 hy with hy|hy;·exact hg.1 y hy
   ·simp at hy;subst hy;exact b.1
  ·simp only[BJ];split<;>omega
  ·simp only[BJ];split<;>omega
 ·rw[az c];exact⟨λg' h=>(by cases h),λe h=>(by cases h;rfl)⟩
def Kl(d:bZ):(∀b∈(gw d).1,eT b=true)/\(gw d).1.length<=5/\0<=(gw d).2/\(gw d).2<100000:=by
 have H:=RC (go:=nU d) (I:=λi g=>(∀b∈g.1,eT b=true)/\g.1.length<=i/\0<=g.2/\g.2<100000) (O:=λe=>(∀b∈e.1.1,eT b=true)/\e.1.1.length<=5/\0<=e.1.2/\e.1.2<100000) 5
  (λi g b hi hg=>⟨(Km d hg).1,λe he=>by rw[(Km d hg).2 e he];exact⟨hg.1,by omega,hg.2.2⟩⟩) (List.range 5) 0 ([],0) (by simp) (by simp)
 unfold gw;cases hr:iI (nU d) 0 (List.range 5) ([],0) with
 |inl g=>exact H.1 g hr
 |inr g=>exact H.2 g hr
def OP{β γ:Type}{go:Nat->γ->β->γ}(I:Nat->γ->Prop):∀(l:List β) (i:Nat) (g:γ),(∀j b g,i<=j->j<i+l.length->I j g->I (j+1) (go j g b))->I i g->I (i+l.length) (foldI go i l g)
 |[],i,g,_,h=>h
 |b::l,i,g,hs,h=>by rw[foldI,cV,show i+(l.length+1)=i+1+l.length by omega];exact OP I l (i+1) _ (λj b g h1 h2 h3=>hs j b g (by omega) (by simp;omega) h3) (hs i b g (de _) (by simp) h)
structure vL (i:Nat) (g:List Kp×Int):Prop where
 k:∀k∈g.1,GI k
 n:g.1.length<=i
 m:0<=g.2/\g.2<100000
 q:∀k∈g.1,k.seq<=g.2
 a:∀k∈g.1,k.at_<5+i
 d:g.1.Pairwise λx y=>x.at_≠y.at_
def QC(bs:List Bn)(d:bZ){i:Nat}(hi:i<15){g:List Kp×Int}(x:Nat)(h:vL i g):vL (i+1) (xQ bs d i g x):=by
 unfold xQ;split
 ·rename_i c;have r:=FU c.1;have o:=QJ c.2.1;have hm:=h.m;split;·exact⟨h.k,by have:=h.n;simp only;omega,by simp only;omega,λk hk=>by have:=h.q k hk;simp only;omega,λk hk=>by have:=h.a k hk;omega,h.d⟩
  ·generalize cY (dV d ((5+i:Nat):Int))=rr at*;generalize lf:((5+i:Nat):Int)=at_;refine⟨λk hk=>?_,by have:=h.n;rw[fO,List.length_singleton];omega,by constructor<;>(try dsimp only)<;>omega,λk hk=>?_,λk hk=>?_,?_⟩
   ·rcases fP.1 hk with hk|hk;·exact h.k k hk
    ·rw[fG] at hk;subst hk;exact⟨o.1,⟨by (try dsimp only);omega,by (try dsimp only);omega⟩,⟨r.1,c.2.2⟩⟩
   ·rcases fP.1 hk with hk|hk;·have:=h.q k hk;(try dsimp only);omega
    ·rw[fG] at hk;subst hk;(try dsimp only);omega
   ·rcases fP.1 hk with hk|hk;·have:=h.a k hk;omega
    ·rw[fG] at hk;subst hk;(try dsimp only);omega
   ·dsimp only;rw[vu];refine⟨h.d,LM ..,λx hx y hy=>?_⟩;rw[fG] at hy;subst hy;have:=h.a x hx;(try dsimp only)
    omega
 ·exact⟨h.k,by have:=h.n;omega,h.m,h.q,λk hk=>by have:=h.a k hk;omega,h.d⟩
def Qv(bs:List Bn)(d:bZ)(m:Int)(hm:0<=m/\m<100000):vL 15 (o7 bs d m):=by have:=OP (go:=xQ bs d) vL (List.range 15) 0 ([],m) (λj b g h1 h2 h3=>QC bs d (by simp at h2;omega) b h3) ⟨by simp,by simp,hm,by simp,by simp,by simp⟩;simpa [o7] using this
def acf(bs:List Bn)(d:bZ)(m:Int)(hm:0<=m/\m<100000):(o7 bs d m).1.length<=15:=(Qv bs d m hm).n
def Fz(d:bZ):vL 15 (o6 d):=Qv _ d _ (Kl d).2.2
def Qs{d:bZ}{k:Kp}:k∈kK d↔k∈(o6 d).1:=(RT Kp.seq _).mem_iff
def Qr(d:bZ):(kK d).length<=15:=by unfold kK;rw[(RT Kp.seq _).length_eq];exact(Fz d).n
def Qt{d:bZ}{k:Kp}(h:k∈kK d):GI k/\k.seq<=(o6 d).2:=⟨(Fz d).k k (Qs.1 h),(Fz d).q k (Qs.1 h)⟩
end M
set_option maxHeartbeats 4000000
namespace M
open Go
variable [Lb]
def RY(c:ah):∀(n:Nat) (s:ah),∀w∈Lib.splitK c 0 n s,w.length<=s.length
 |0,s,w,h=>by simp[Lib.splitK] at h;subst h;exact de _
 |n+1,s,w,h=>by
  unfold Lib.splitK at h;split at h;·simp at h;subst h;exact de _
  ·rcases bO.1 h with rfl|h;·simp;omega
   ·have:=RY c n _ w h;simp at this;omega
def RZ(s c:ah):∀w∈Lib.split s c,w.length<=s.length:=RY c _ s
def ae6(c:ah)(n:Nat)(s:ah):Lib.splitK c 0 n s≠[]:=by
 cases n with
 |zero=>simp[Lib.splitK]
 |succ n=>unfold Lib.splitK;split<;>simp
def afa(s c:ah):Lib.split s c≠[]:=ae6 c _ s
def zw(l:ah):aH:=⟨(Lib.cut l colon).1,(Lib.cut l colon).2.1⟩
def qS(n:Nat)(i:Nat)(g:List aH)(l:ah):List aH ⊕ (List aH×Option (Nat×ah)):=
 if (Lib.cut l colon).2.2=true then (if i+1=n/\(Lib.cut l colon).1=fu then .inr (g,some (i,(Lib.cut l colon).2.1)) else .inl (g++[zw l])) else .inr (g,none)
def x7:List aH ⊕ (List aH×Option (Nat×ah))->Option (List aH)
 |.inl g=>some g
 |.inr x=>if x.2.isSome=true then some x.1 else none
def QX(n:Nat):∀(ls:List ah) (i:Nat) (g:List aH),i+ls.length=n->x7 (iI (qS n) i ls g)=(mF ls).map λfs=>g++fs
 |[],i,g,_=>by simp[iI,x7,mF]
 |l::ls,i,g,h=>by
  have hl:i+1=n↔ls=[]:=by
   rw[cV] at h;constructor;·intro e;exact GG.1 (by omega)
   ·rintro rfl;simpa using h
  have hp:qS n i g l=if (Lib.cut l colon).2.2=true then (if ls=[]/\(Lib.cut l colon).1=fu then .inr (g,some (i,(Lib.cut l colon).2.1)) else .inl (g++[zw l])) else .inr (g,none):=by unfold qS;simp only[hl]
  rw[iI,mF,hp];by_cases c1:(Lib.cut l colon).2.2=true
  ·rw[aq c1,aq c1];by_cases c2:ls=[]/\(Lib.cut l colon).1=fu;·rw[aq c2,aq c2];simp[x7]
   ·rw[az c2,az c2];simp only;have:=QX n ls (i+1) (g++[zw l]) (by rw[cV] at h;omega);rw[this,Option.map_map];congr 1;funext fs;simp[zw]
  ·rw[az c1,az c1];rfl
def OL{m:Nat}:∀{ls:List ah} {fs:List aH},(∀l∈ls,l.length<=m)->mF ls=some fs->fs.length<=ls.length/\∀f∈fs,aN f<=2*m
 |[],fs,_,h=>by simp[mF] at h;subst h;simp
 |l::ls,fs,hm,h=>by
  rw[mF] at h;split at h
  ·split at h;·simp at h;subst h;simp
   ·obtain⟨fs',h1,rfl⟩:=ni.1 h;have ih:=OL (λx hx=>hm x (cE _ hx)) h1;refine⟨by simp;exact ih.1,λf hf=>?_⟩;rcases bO.1 hf with rfl|hf;·have:=Dh l colon;have:=hm l (bz ..);simp only[aN];omega
    ·exact ih.2 f hf
  ·cases h
def QZ{s:ah}{p:ah×List aH×ah}(h:lI s=some p):p.1.length<=s.length/\wL aN p.2.1<=10*(2*s.length+1)/\p.2.2.length<=s.length:=by
 unfold lI at h;split at h
 ·rename_i g;obtain⟨fs,h1,rfl⟩:=ni.1 h;have hc:=Dh s ck;have hm:=RZ (Lib.cut s ck).1 crlf;have hw:=OL (m:=s.length) (λl hl=>by have:=hm l (Td hl);omega) h1;refine⟨?_,q8 hw.2 (by have:=hw.1;have:=g.2;simp at*;omega),hc.2⟩;cases hs:Lib.split (Lib.cut s ck).1 crlf with
  |nil=>simp
  |cons a l=>have:=hm a (by rw[hs];simp);simp only[List.headD_cons];omega
 ·cases h
def aez{s:ah}{r:aU}(h:qW s=some r):aL r<=10*(2*s.length+1)+s.length:=by
 unfold qW at h;cases hp:lI s with
 |none=>rw[hp] at h;cases h
 |some p=>rw[hp] at h;obtain⟨w,_,rfl⟩:=ni.1 h;have:=QZ hp;simp only[aL];omega
def Uj(b l0:ah)(lt:List ah)(hm:∀l∈lt,l.length<=1073741824)(hl9:lt.length<=9):
  aX (aA (ev LI TT) (aB TT) sL) [(7,.str ⟨b.toArray⟩),(9,.row .own 1 ((l0::lt).map eS)),(10,.row .own 2 []),(31,.ref 9 []),(32,.cut 9 [] 1 (lt.length+1)),(33,.int .i64 lt.length),(34,.int .i64 0)]=
  (match iI (qS lt.length) 0 lt [] with
   |.inl g=>some (.exit 0,[(7,.str ⟨b.toArray⟩),(9,.row .own 1 ((l0::lt).map eS)),(10,.row .own 2 (g.map aR)),(31,.ref 9 []),(32,.cut 9 [] 1 (lt.length+1)),(33,.int .i64 lt.length),(34,.int .i64 lt.length),(35,.bool false)])
   |.inr (g,none)=>some (.ret,[(2,.str ⟨#[]⟩),(3,.row .own 2 []),(4,.str ⟨#[]⟩),(5,.bool false),(10,.row .own 2 (g.map aR))])
   |.inr (g,some (i,v))=>some (.exit 0,[(7,.str ⟨b.toArray⟩),(9,.row .own 1 ((l0::lt).map eS)),(10,.row .own 2 (g.map aR)),(13,.str ⟨fu.toArray⟩),(14,.str ⟨v.toArray⟩),(31,.ref 9 []),(32,.cut 9 [] 1 (lt.length+1)),(33,.int .i64 lt.length),(34,.int .i64 i),(55,.bool true)])):=by
 have:=Qq (xt:=0) (f:=aA (ev LI TT) (aB TT) sL) lt (λi (g:List aH)=>[(7,.str ⟨b.toArray⟩),(9,.row .own 1 ((l0::lt).map eS)),(10,.row .own 2 (g.map aR)),(31,.ref 9 []),(32,.cut 9 [] 1 (lt.length+1)),(33,.int .i64 lt.length),(34,.int .i64 i)]) (qS lt.length)
  (λg=>[(7,.str ⟨b.toArray⟩),(9,.row .own 1 ((l0::lt).map eS)),(10,.row .own 2 (g.map aR)),(31,.ref 9 []),(32,.cut 9 [] 1 (lt.length+1)),(33,.int .i64 lt.length),(34,.int .i64 lt.length),(35,.bool false)])
  (λe=>match e with|(g,none)=>(.ret,[(2,.str ⟨#[]⟩),(3,.row .own 2 []),(4,.str ⟨#[]⟩),(5,.bool false),(10,.row .own 2 (g.map aR))])|(g,some (i,v))=>(.exit 0,[(7,.str ⟨b.toArray⟩),(9,.row .own 1 ((l0::lt).map eS)),(10,.row .own 2 (g.map aR)),(13,.str ⟨fu.toArray⟩),(14,.str ⟨v.toArray⟩),(31,.ref 9 []),(32,.cut 9 [] 1 (lt.length+1)),(33,.int .i64 lt.length),(34,.int .i64 i),(55,.bool true)]))
  (λi g=>g.length<=i) [] (by simp) (λi l g hi hl hg=>?_) (λi l g g' hi hg nK=>?_) (λg hg=>?_)
 ·simp only[jm] at this;refine this.trans ?_;cases iI (qS lt.length) 0 lt [] with
  |inl g=>rfl
  |inr e=>obtain⟨g,b⟩:=e;cases b with|none=>rfl|some x=>rfl
 ·have hw:=cw i (by omega);obtain⟨_,rfl⟩:=aQ.1 hi;have e1:1+i=i+1:=by omega
  have u1:=vY lt[i] [58,32] (by have:=hm _ (cU hl);omega);have dW:IntKind.i64.wrap ((lt.length:Int)+1 - 2)=(lt.length:Int)+1 - 2:=dN (by omega) (by omega);have hlz:(g.length+1)*32<=140737488355328:=by omega
  unfold qS zw colon;cases h1:(Lib.cut lt[i] [58,32]).2.2
  ·rw[h1] at u1;try simp at u1
   simp -implicitDefEqProofs [sL,xB,hl,hw,dW,e1,u1,h1,lv,hlz,cZ]
  ·rw[h1] at u1;by_cases h2:i+1=lt.length
   ·have mG:(i:Int)=(lt.length:Int)+1 - 2:=by omega
    by_cases h3:(Lib.cut lt[i] [58,32]).1=fu
    ·rw[h3] at u1;try simp[fu] at u1
     simp -implicitDefEqProofs [sL,xB,hl,hw,dW,e1,u1,h1,eq_true h2,eq_true mG,h3,lv,hlz,cZ,fu]
    ·have DK:=h3;simp[fu] at DK;try simp at u1
     simp -implicitDefEqProofs [sL,xB,hl,hw,dW,e1,u1,h1,eq_true h2,eq_true mG,eq_false h3,eq_false DK,lv,hlz,cZ]
   ·have mG:¬(i:Int)=(lt.length:Int)+1 - 2:=by omega
    try simp at u1
    simp -implicitDefEqProofs [sL,xB,hl,hw,dW,e1,u1,h1,eq_false h2,eq_false mG,lv,hlz,cZ]
 ·unfold qS at nK;split at nK
  ·split at nK;·cases nK
   ·cases nK;simp;omega
  ·cases nK
 ·simp -implicitDefEqProofs [sL,xB]
def We(s:ah)(hb:s.length<=16777216):ev LI TT 172 [.str ⟨s.toArray⟩]=some (.aj [.str ⟨((lI s).elim [] (λp=>p.1)).toArray⟩,.row .own 2 (((lI s).elim [] (λp=>p.2.1)).map aR),.str ⟨((lI s).elim [] (λp=>p.2.2)).toArray⟩,.bool ((lI s).isSome)],[.dead]):=by
 rw[aF (b:=sM) (rs:=[.t 2,.t 3,.t 4,.t 5]) (n:=1) rfl rfl];have u1:=vY s [13,10,13,10] (by omega);have hc:=Dh s [13,10,13,10];have u2:=WB (Lib.cut s [13,10,13,10]).1 [13,10] (by omega) (by simp);have hm:=RZ (Lib.cut s [13,10,13,10]).1 [13,10];have hne:=afa (Lib.cut s [13,10,13,10]).1 [13,10];have ep:lI s=if (Lib.cut s [13,10,13,10]).2.2=true/\((Lib.split (Lib.cut s [13,10,13,10]).1 [13,10]).length:Int)<=10 then (mF (Lib.split (Lib.cut s [13,10,13,10]).1 [13,10]).tail).map λfs=>((Lib.split (Lib.cut s [13,10,13,10]).1 [13,10]).headD [],fs,(Lib.cut s [13,10,13,10]).2.1) else none:=rfl
 rw[ep];clear ep;generalize Lib.split (Lib.cut s [13,10,13,10]).1 [13,10]=ls at u2 hm hne;generalize Lib.cut s [13,10,13,10]=p at u1 u2 hm hc;obtain⟨hd,bd,ok⟩:=p;try simp only at u1 u2 hm hc
 obtain⟨l0,lt,rfl⟩:∃l0 lt,ls=l0::lt:=by cases ls with|nil=>exact absurd rfl hne|cons a l=>exact⟨_,_,rfl⟩
 cases ok
 ·try simp at u1 u2
  simp -implicitDefEqProofs [sM,u1,u2]
 by_cases g:(((l0::lt).length:Nat):Int)<=10;rotate_left
 ·have g':10<(lt.length:Int)+1:=by simp at g;omega
  have g2:¬(lt.length:Int)+1<=10:=by omega
  try simp at u1 u2
  simp -implicitDefEqProofs [sM,u1,u2,g',g2]
 have g':¬10<(lt.length:Int)+1:=by simp at g;omega
 have g2:(lt.length:Int)+1<=10:=by omega
 have g5:(1:Int)<=(lt.length:Int)+1:=by omega
 have u3:=Uj bd l0 lt (λl hl=>by have:=hm l (cE _ hl);omega) (by omega);have u4:=QX lt.length lt 0 [] (by simp);simp only[j9,Option.map_id'] at u4;try simp at u1 u2
 cases hr:iI (qS lt.length) 0 lt [] with
 |inl fs=>rw[hr] at u3 u4;simp[x7] at u3 u4;simp -implicitDefEqProofs [sM,u1,u2,g',g2,g5,u3,<-u4]
 |inr x=>
 obtain⟨fs,x⟩:=x;cases x;·rw[hr] at u3 u4;simp[x7] at u3 u4;simp -implicitDefEqProofs [sM,u1,u2,g',g2,g5,u3,<-u4]
 rw[hr] at u3 u4;simp[x7] at u3 u4;simp -implicitDefEqProofs [sM,u1,u2,g',g2,g5,u3,<-u4];all_goals (repeat' split)<;>first|rfl|omega|(simp_all;done)|(simp_all;omega)|skip
def VN(s:ah)(hb:s.length<=16777216):ev LI TT 151 [.str ⟨s.toArray⟩]=some (.aj [.agg (cF .own ((fC s).1)),.bool ((fC s).2)],[.dead]):=by
 rw[aF (b:=oY) (rs:=[.c 2 3 true 47,.t 3]) (n:=1) rfl rfl];have u1:=We s hb;try simp at u1
 rw[ael];have hw:=λr=>aez (s:=s) (r:=r);have gN:=λp=>QZ (s:=s) (p:=p);have er:qW s=(lI s).bind λp=>(vl (ct 32 p.1)).map λw=>(⟨(((cy w).getD 0:Nat):Int),p.2.1,p.2.2⟩:aU):=rfl;rw[er] at hw⊢;clear er;generalize lI s=po at u1 hw gN⊢;cases po with
 |none=>
  have u2:=tP [] 32 (by simp);try simp at u1 u2
  simp -implicitDefEqProofs [oY,u1,u2,fL]
 |some p=>
 obtain⟨f,fs,b⟩:=p;have hq:=gN _ rfl;simp only at hq;have u2:=tP f 32 (by omega);have hm:=yj 32 f;simp only[jj] at hw⊢;rcases jz:ct 32 f with _|⟨w0,_|⟨w1,_|⟨w2,_|⟨w3,ws⟩⟩⟩⟩;·exact absurd jz (F6 32 f)
 ·rw[jz] at u2;simp at u1 u2;simp -implicitDefEqProofs [oY,u1,u2,vl,fL]
 ·rw[jz] at u2;simp at u1 u2;simp -implicitDefEqProofs [oY,u1,u2,vl,fL]
 rotate_left
 ·rw[jz] at u2;have hn:¬((ws.length:Int)+1+1+1+1=3):=by omega
  simp at u1 u2;simp -implicitDefEqProofs [oY,u1,u2,vl,fL,hn]
 rw[jz] at u2 hw;have hw1:=hm w1 (by rw[jz];simp);have u3:=tL w1 (by omega);have hr:=hw ⟨(((cy w1).getD 0:Nat):Int),fs,b⟩ rfl;have u4:=M6 ⟨(((cy w1).getD 0:Nat):Int),fs,b⟩ (by omega);simp only[vl,cC];obtain⟨n,hn⟩:∃n,(((cy w1).getD 0:Nat):Int)=n:=⟨_,rfl⟩;rw[hn] at u3 u4⊢;by_cases g0:s=[];·subst g0;simp at u1 u2 u3 u4;simp -implicitDefEqProofs [oY,u1,u2,u3,fL]
 by_cases g:jd ⟨n,fs,b⟩=s;·rw[g] at u4;simp at u1 u2 u3 u4;simp -implicitDefEqProofs [oY,u1,u2,u3,u4,g,g0,fL]
 simp at u1 u2 u3 u4;simp -implicitDefEqProofs [oY,u1,u2,u3,u4,g,g0,fL];all_goals (repeat' split)<;>first|rfl|omega|(simp_all;done)|(simp_all;omega)|skip
end M
set_option maxHeartbeats 4000000
namespace M
open Go
variable [Lb]
end M
set_option maxHeartbeats 4000000
namespace M
open Go
variable [Lb]
def Rn(s:ah):aL (fC s).1<=800:=by
 cases h:(fC s).2;·have:fC s=(fL,false):=Rc h;rw[this];decide
 ·exact FW (Re h).1
def SB(fs:List aH):wL wS (ey fs)<=(wL aN fs+1)*(wL aN fs+1):=by refine q8 (λw hw=>?_) (Lm fs);unfold ey at hw;obtain⟨x,hx,rfl⟩:=aT.1 hw;have h1:=Gi _ x hx;have h2:=ue fs kM;simp only[wS,dh,cW];omega
def ahV(s:ah):wL wS (ey (fC s).1.fields)<=641601:=by
 have h1:=Rn s;have h2:=SB (fC s).1.fields;have h3:wL aN (fC s).1.fields+1<=801:=by have:aL (fC s).1=wL aN (fC s).1.fields+(fC s).1.body.length:=rfl;omega
 exact mc h2 (Nat.mul_le_mul h3 h3)
def HE(s:ah):(fV s).1.length<=s.length/\(fV s).2.length<=s.length:=by
 unfold fV;cases h:eu 10 s with
 |none=>simp
 |some p=>have:=NO h;simp only[vC];omega
def NQ(s:ah):∃b,Lib.cut s [10]=((fV s).1,(fV s).2,b):=by
 rw[Di];unfold fV;cases h:eu 10 s with
 |none=>exact⟨_,rfl⟩
 |some p=>exact⟨_,rfl⟩
def Sj:∀(n:Nat) (s:ah),(ef n s).1.length=n/\(∀v∈(ef n s).1,v.length<=s.length)/\(ef n s).2.length<=s.length
 |0,s=>by simp[ef]
 |n+1,s=>by
  have h1:=HE s;have ih:=Sj n (fV s).2;rw[ef];refine⟨by simp[ih.1],λv hv=>?_,by simp only;omega⟩;rcases bO.1 hv with rfl|hv;·exact h1.1
  ·have:=ih.2.1 v hv;omega
def My(s p:ah)(tt:Int)(n:Nat)(hn:n<=4):∀(m i:Nat) (g:List ah) (t:ah),i+m=n->g.length=i->t.length<=16777216->
  aX (aA (ev LI TT) (aB TT) A0) [(0,.str ⟨s.toArray⟩),(2,.ptr .own (cD .own iX)),(5,.str ⟨t.toArray⟩),(12,.ptr .own (cD .own ⟨p,[],g,fL,tt⟩)),(60,.int .i64 n),(61,.int .i64 i)]=some (.exit 0,[(0,.str ⟨s.toArray⟩),(2,.ptr .own (cD .own iX)),(5,.str ⟨((ef m t).2).toArray⟩),(12,.ptr .own (cD .own ⟨p,[],g++(ef m t).1,fL,tt⟩)),(60,.int .i64 n),(61,.int .i64 n),(62,.bool false)])
 |0,i,g,t,hi,hg,ht=>by
  have:i=n:=by omega
  subst this;rw[eP];simp -implicitDefEqProofs [A0,Js,ef,fL,iX]
 |m+1,i,g,t,hi,hg,ht=>by
  have hl:i<n:=by omega
  have hw:=cw i (by omega);obtain⟨b,hb⟩:=NQ t;have u1:=vY t [10] (by omega);rw[hb] at u1;have hlz:(g.length+1)*16<=140737488355328:=by omega
  have hc:=HE t
  have hstep:aA (ev LI TT) (aB TT) A0 [(0,.str ⟨s.toArray⟩),(2,.ptr .own (cD .own iX)),(5,.str ⟨t.toArray⟩),(12,.ptr .own (cD .own ⟨p,[],g,fL,tt⟩)),(60,.int .i64 n),(61,.int .i64 i)]=some (.normal,[(0,.str ⟨s.toArray⟩),(2,.ptr .own (cD .own iX)),(5,.str ⟨((fV t).2).toArray⟩),(12,.ptr .own (cD .own ⟨p,[],g++[(fV t).1],fL,tt⟩)),(60,.int .i64 n),(61,.int .i64 ((i+1:Nat):Int))]):=by
   try simp at u1
   simp -implicitDefEqProofs [A0,Js,fL,iX,hl,hw,u1,hlz,cZ]
  rw[eP,hstep];have ih:=My s p tt n hn m (i+1) (g++[(fV t).1]) (fV t).2 (by omega) (by simp;omega) (by omega);rw[rA] at ih;exact ih
def VL(s:ah)(hb:s.length<=16777216):ev LI TT 121 [.str ⟨s.toArray⟩]=some (.aj [.agg (cD .own ((jD s).1)),.bool ((jD s).2)],[.dead]):=by
 rw[aF (b:=oX) (rs:=[.c 2 7 true 60,.t 3]) (n:=1) rfl rfl];have u1:=vY s [10] (by omega);obtain⟨cb,hcb⟩:=NQ s;rw[hcb] at u1;have hc:=HE s;rw[acY];have eo:xX s=(vm (ct 32 (fV s).1)).bind λw=>(cy w.2.1).bind λt=>(cy w.2.2).bind λn=>BN w.1 t n (fV s).2:=rfl;rw[eo];clear eo hcb;generalize fV s=ln at u1 hc⊢;obtain⟨l,b⟩:=ln;simp only at u1 hc⊢;have u2:=tP l 32 (by omega);have hm:=yj 32 l;by_cases h4:(ct 32 l).length=4;rotate_left
 ·have Ij:¬(((ct 32 l).length:Int)=4):=by omega
  have hw4:vm (ct 32 l)=none:=by unfold vm;split;(rename_i e;rw[e] at h4;simp at h4);rfl
  rw[hw4];try simp at u1 u2
  simp -implicitDefEqProofs [oX,u1,u2,Ij,iX,fL]
 obtain⟨w0,w1,w2,w3,hw⟩:=Qg h4;rw[hw] at u2 hm⊢;have IM:=hm w1 (by simp);have u3:=tL w2 (by have:=hm w2 (by simp);omega);have u4:=tL w3 (by have:=hm w3 (by simp);omega);simp only[vm,jj];cases h2:cy w2 with
 |none=>rw[h2] at u3;simp at u1 u2 u3 u4;simp -implicitDefEqProofs [oX,u1,u2,u3,u4,iX,fL]
 |some t=>
 cases h3:cy w3 with
 |none=>rw[h2] at u3;rw[h3] at u4;simp at u1 u2 u3 u4;simp -implicitDefEqProofs [oX,u1,u2,u3,u4,iX,fL]
 |some n=>
 rw[h2] at u3;rw[h3] at u4;simp only[jj];unfold BN;by_cases g:n<=4;rotate_left
 ·have g':4<(n:Int):=by omega
  simp at u1 u2 u3 u4;simp -implicitDefEqProofs [oX,u1,u2,u3,u4,g,g',iX,fL]
 have g':¬4<(n:Int):=by omega
 have u5:=My s w1 (t:Nat) n g n 0 [] b (by omega) rfl (by omega);have hv:=Sj n b;have u6:=VN (ef n b).2 (by omega);have hrw:=Rn (ef n b).2;have hvw:=ahV (ef n b).2;have hrf:aL (fC (ef n b).2).1=wL aN (fC (ef n b).2).1.fields+(fC (ef n b).2).1.body.length:=rfl;have u7:=C5 (fC (ef n b).2).1.fields (by omega);have hvs:wL wS (ef n b).1<=4*(16777216+1):=q8 (λv eO=>by have:=hv.2.1 v eO;simp only[wS];omega) (by omega);have u8:=M4 ⟨w1,ey (fC (ef n b).2).1.fields,(ef n b).1,(fC (ef n b).2).1,(t:Nat)⟩ (by simp only[aZ];omega);rw[aq g];generalize ey (fC (ef n b).2).1.fields=vo at u7 u8⊢;generalize fC (ef n b).2=rr at u6 u7 u8⊢;obtain⟨⟨rst,rfs,rbd⟩,rok⟩:=rr;simp only at u6 u7 u8⊢;generalize ef n b=tv at u5 u6 u8⊢;obtain⟨vs,rest⟩:=tv;simp only[iX,fL,j9] at u5 u6 u8⊢;simp at u1 u2 u3 u4 u5 u6 u7;cases rok;·simp -implicitDefEqProofs [oX,u1,u2,u3,u4,u5,u6,u7,g']
 by_cases gt:fy ⟨w1,vo,vs,⟨rst,rfs,rbd⟩,(t:Int)⟩=s;·rw[gt] at u8;simp at u8;simp -implicitDefEqProofs [oX,u1,u2,u3,u4,u5,u6,u7,u8,g',gt]
 simp at u8;simp -implicitDefEqProofs [oX,u1,u2,u3,u4,u5,u6,u7,u8,g',gt,eq_false gt];all_goals (repeat' split)<;>first|rfl|omega|(simp_all;done)|(simp_all;omega)|skip
end M
set_option maxHeartbeats 4000000
namespace M
open Go
variable [Lb]
end M
set_option maxHeartbeats 4000000
namespace M
open Go
variable [Lb]
def qN{α:Type}(T:List α)(n:Nat)(a:α)(h:T[n]?=some a)(g:α->α):T.modify n g=T.set n (g a):=by
 apply gX;intro j;rw[vH,rC];by_cases e:n=j;·subst e;obtain⟨hi,hh⟩:=aQ.1 h;have hg:T[n]=a:=hh;simp[hg,hi]
 ·simp[e]
def gQ{α:Type}(T:List α)(n:Nat)(a:α)(g:α->α):(T.set n a).modify n g=T.set n (g a):=by
 apply gX;intro j;rw[vH,rC,rC];by_cases e:n=j;·subst e;by_cases h:n<T.length<;>simp[h]
 ·simp[e]
def dn(k:Kp):List X:=[.str ⟨k.obj.path.toArray⟩,.dead,.dead,.int .i64 k.obj.resp.status,.dead,.str ⟨k.obj.resp.body.toArray⟩,.int .i64 k.obj.t,.int .i64 k.at_,.int .i64 k.seq]
def ahX{α:Type}(w:α->Nat)(l:List α)(i:Nat)(v:α):wL w (l.set i v)<=wL w l+w v:=by
 unfold wL;rw[GH];induction l generalizing i with
 |nil=>simp
 |cons a l ih=>
  cases i with
  |zero=>simp;omega
  |succ i=>have:=ih i;simp at this⊢;omega
def n9{α:Type}(w:α->Nat)(a b:List α):wL w (a++b)=wL w a+wL w b:=by unfold wL;simp;omega
def SJ{α:Type}(w:α->Nat)(p:α->Bool)(l:List α):wL w (l.filter p)<=wL w l:=by
 induction l with
 |nil=>simp[wL]
 |cons a l ih=>rw[CF];split<;>simp[wL] at ih⊢ <;>omega
def H8(k:Nat->Bool):∀(ws:List Wr) (i:Nat) (cs:List ah),wL wS (foldI (jZ k) i ws cs)<=wL wS cs+wL e9 ws
 |[],i,cs=>by simp[foldI]
 |w::ws,i,cs=>by
  have h:=H8 k ws (i+1) (jZ k i cs w)
  have h2:wL wS (jZ k i cs w)<=wL wS cs+e9 w:=by
   unfold jZ;split;·exact ahX wS cs _ w.text
   ·omega
  have h3:wL e9 (w::ws)=e9 w+wL e9 ws+1:=by simp[wL];omega
  rw[foldI];omega
def H6(d:bZ):dA (iR d)<=dA d:=by have:=H8 (jY [] true) d.pending 0 d.cells;show wL wS (qI (jY [] true) d.cells d.pending)+wL e9 []<=wL wS d.cells+wL e9 d.pending;unfold qI;have h:wL e9 ([]:List Wr)=0:=rfl;omega
def Q7(d:bZ)(a:Int)(t:ah):dA (lM d a t)<=dA d+t.length+1:=by
 have h:=H6 d;have h1:wL e9 [⟨a,t⟩]=t.length+1:=by simp[wL,e9];omega
 unfold lM;split;·show wL wS (iR d).cells+wL e9 [⟨a,t⟩]<=_;have h2:dA (iR d)=wL wS (iR d).cells+wL e9 []:=rfl;have h:wL e9 ([]:List Wr)=0:=rfl;omega
 ·show wL wS d.cells+wL e9 (d.pending++[⟨a,t⟩])<=wL wS d.cells+wL e9 d.pending+t.length+1;rw[n9];omega
structure Uw (s:Sh):Prop where
 d:fA s.bp=true
 b:(s.aW.length:Int)<=5
 n:5<=s.next/\s.next<=19
 q:1<=s.seq/\s.seq<=100000
 bs:bT eT s.aW=true
 os:BO s.seq s.aG=true
def KW{s:Sh}(h:gR s=true):Uw s:=by unfold gR at h;simp only[ax,bx] at h;exact⟨h.1.1.1.1.1,h.1.1.1.1.2,h.1.1.1.2,h.1.1.2,h.1.2,h.2⟩
def aeY{s:Sh}(h:gR s=true){k:Kp}(hk:k∈s.aG):dJ k.obj=true:=by unfold gR at h;simp only[ax] at h;have:=h.2;unfold BO at this;obtain⟨i,hi,rfl⟩:=pT hk;have h2:=jM.1 this (s.aG[i],i) (ri (i:=i) (by simp[hi]));unfold Fu at h2;simp only[ax] at h2;exact h2.1.1.1.1
end M
set_option maxHeartbeats 4000000
namespace M
open Go
variable [Lb]
def OX(d:bZ)(a:Int):(dV d a).length<=dA d:=by
 have hw:dA d=wL wS d.cells+wL e9 d.pending:=rfl;unfold dV;rw[H9];cases h:d.pending.reverse.find? (λw=>decide (w.at_=a)) with
 |none=>
  simp only[Option.elim_none];rw[kT];cases h2:d.cells[a.toNat]? with
  |none=>simp
  |some s=>have:=iu (w:=wS) (ri h2);simp only[wS] at this;simp only[vC];omega
 |some w=>have:=Tb h;have:=iu (w:=e9) (LK.1 this);simp only[e9] at this;simp only[Option.elim_some];omega
def TR(d:bZ)(a:Int)(hb:d.pending.length<=9223372036854775807):aX (aA (ev LI TT) (aB TT) AN) [(0,.ptr .af (gL .af d)),(1,.int .i64 a),(5,.int .i64 (d.pending.length - 1))]=
  (d.pending.reverse.find? (λw=>decide (w.at_=a))).elim (some (.exit 0,[(0,.ptr .af (gL .af d)),(1,.int .i64 a),(5,.int .i64 (-1)),(13,.bool false)])) (λw=>some (.ret,[(4,.str ⟨w.text.toArray⟩)])):=by
 refine acd (f:=aA (ev LI TT) (aB TT) AN) d.pending (λi=>[(0,.ptr .af (gL .af d)),(1,.int .i64 a),(5,.int .i64 i)]) (λw=>decide (w.at_=a)) (λw=>[(4,.str ⟨w.text.toArray⟩)]) _ (λi b hi hl=>?_) ?_;·have hw:IntKind.i64.wrap ((i:Int) - 1)=i - 1:=dN (by omega) (by omega);obtain⟨_,rfl⟩:=aQ.1 hi;simp -implicitDefEqProofs [AN,Jo,hl,hw]
 ·simp -implicitDefEqProofs [AN,Jo]
def MZ(d:bZ)(a:Int)(hb:d.pending.length<=9223372036854775807)(h0:0<=a)(h1:a<d.cells.length):ev LI TT 118 [.ptr .af (gL .af d),.int .i64 a]=some (.str ⟨(dV d a).toArray⟩,[.dead,.dead]):=by
 rw[aF (b:=Es) (rs:=[.t 4]) (n:=2) rfl rfl];have h:=TR d a hb;have hw:IntKind.i64.wrap ((d.pending.length:Int) - 1)=d.pending.length - 1:=dN (by omega) (by omega);have h2:a.toNat<d.cells.length:=by omega
 simp at h;unfold dV;rw[H9];simp -implicitDefEqProofs [Es,hw,h];cases d.pending.reverse.find? (λw=>decide (w.at_=a))<;>simp[h0,h2]
def Nl(x:Int):ev LI TT 153 [.int .i64 x]=some (.bool false,[.dead]):=by rw[aF (b:=Gk) (rs:=[.t 2]) (n:=1) rfl rfl];simp -implicitDefEqProofs [Gk];all_goals (repeat' split)<;>first|rfl|omega|(simp_all;done)|(simp_all;omega)|skip
def rR(a b:Int):Int:=if a<b then -1 else if b<a then 1 else 0
def Wj(a:Int)(b:Int):ev LI TT 124 [.int .i64 a,.int .i64 b]=some (.int .i64 (rR a b),[.dead,.dead]):=by
 rw[aF (b:=Gj) (rs:=[.t 4]) (n:=2) rfl rfl];unfold rR;by_cases g1:a<b;all_goals by_cases g2:b<a
 all_goals
 have u1:=Nl a;try simp at u1
 have u2:=Nl b;try simp at u2
 simp -implicitDefEqProofs [Gj,u1,u2,g1,g2];all_goals (repeat' split)<;>first|rfl|omega|(simp_all;done)|(simp_all;omega)|skip
def M9(a b:Kp):ev LI TT 123 [.agg (av .af a),.agg (av .af b)]=some (.int .i64 (rR a.seq b.seq),[.dead,.dead]):=by
 rw[aF (b:=EF) (rs:=[.t 4]) (n:=2) rfl rfl];have u1:=Wj a.seq b.seq;try simp at u1
 simp -implicitDefEqProofs [EF,u1];all_goals (repeat' split)<;>first|rfl|omega|(simp_all;done)|(simp_all;omega)|skip
def aeW{α:Type}(A:List α)(x k:α)(B:List α)(n:Nat)(hn:n=A.length):((A++x::k::B).set (n+1) x).set n k=A++k::x::B:=by subst hn;simp[List.set_append]
def TH(a b:Int)(fi:Int)(T:List (List X))(j:Nat)(x k:Kp)(hj:j+1<T.length)(hx:T[j]=av .own x)(hk:T[j+1]=av .own k)(hb:T.length<=1073741824)(ha:a=0)(hlt:k.seq<x.seq):
  aA (ev LI TT) (aB TT) tg [(0,.ref 100000 []),(1,.int .i64 a),(2,.int .i64 b),(3,.fn 123 []),(8,.int .i64 fi),(9,.int .i64 ((j+1:Nat):Int)),(100000,.row .own 9 T)]=some (.normal,[(0,.ref 100000 []),(1,.int .i64 a),(2,.int .i64 b),(3,.fn 123 []),(8,.int .i64 fi),(9,.int .i64 (j:Nat)),(100000,.row .own 9 ((T.set (j+1) (av .own x)).set j (av .own k)))]):=by
 subst ha;have hw:IntKind.i64.wrap ((j:Int)+1 - 1)=j:=by rw[show ((j:Int)+1 - 1)=j by omega];exact dN (by omega) (by omega)
 have dW:IntKind.i64.wrap (j:Int)=j:=dN (by omega) (by omega);have u1:=M9 k x;have hc:rR k.seq x.seq=-1:=by unfold rR;rw[aq hlt]
 rw[hc] at u1;have hj':j<T.length:=by omega
 have h0:(0:Int)<(j:Int)+1:=by omega
 have h1:(0:Int)<=(j:Int)+1:=by omega
 have hm:=qN T (j+1) _ (aQ.2 ⟨hj,hk⟩);have hm0:=qN T j _ (aQ.2 ⟨hj',hx⟩);have IM:∀w g,(T.set j w).modify (j+1) g=(T.set j w).set (j+1) (g (av .own k)):=λw g=>qN (T.set j w) (j+1) _ (by rw[List.getElem?_set_ne (by omega)];exact aQ.2 ⟨hj,hk⟩) g;have hm2:∀w v g,((T.set j w).set (j+1) v).modify j g=(T.set (j+1) v).set j (g w):=λw v g=>by rw[List.set_comm _ _ (by omega:j≠j+1),gQ]
 have ho:aB TT 123=true:=rfl;try simp at hx hk u1 hm hm0 IM
 simp -implicitDefEqProofs [tg,Gp,vr,yA,vt,yB,yC,hw,dW,hj,hj',hx,hk,u1,h0,h1,ho,lD,hm,hm0,IM,hm2,gQ,ghost,kA]
def TG(b:Int)(fi:Int)(T:List (List X))(j:Nat)(x k:Kp)(hj:j+1<T.length)(hx:T[j]=av .own x)(hk:T[j+1]=av .own k)(hb:T.length<=1073741824)(hlt:¬k.seq<x.seq):
  aA (ev LI TT) (aB TT) tg [(0,.ref 100000 []),(1,.int .i64 0),(2,.int .i64 b),(3,.fn 123 []),(8,.int .i64 fi),(9,.int .i64 ((j+1:Nat):Int)),(100000,.row .own 9 T)]=some (.exit 2,[(0,.ref 100000 []),(1,.int .i64 0),(2,.int .i64 b),(3,.fn 123 []),(8,.int .i64 fi),(9,.int .i64 ((j+1:Nat):Int)),(34,.bool false),(100000,.row .own 9 T)]):=by
 have dW:IntKind.i64.wrap (j:Int)=j:=dN (by omega) (by omega);have u1:=M9 k x;have hc:¬rR k.seq x.seq<0:=by unfold rR;rw[az hlt];split<;>omega
 obtain⟨z,hz⟩:∃z,rR k.seq x.seq=z:=⟨_,rfl⟩;rw[hz] at u1 hc;have hj':j<T.length:=by omega
 have h0:(0:Int)<(j:Int)+1:=by omega
 have h1:(0:Int)<=(j:Int)+1:=by omega
 have ho:aB TT 123=true:=rfl;try simp at hx hk u1
 simp -implicitDefEqProofs [tg,Gp,vr,yA,vt,yB,yC,dW,hj,hj',hx,hk,u1,hc,h0,h1,ho,lD]
def TI(b:Int)(fi:Int)(T:List (List X)):
  aA (ev LI TT) (aB TT) tg [(0,.ref 100000 []),(1,.int .i64 0),(2,.int .i64 b),(3,.fn 123 []),(8,.int .i64 fi),(9,.int .i64 0),(100000,.row .own 9 T)]=some (.exit 2,[(0,.ref 100000 []),(1,.int .i64 0),(2,.int .i64 b),(3,.fn 123 []),(8,.int .i64 fi),(9,.int .i64 0),(34,.bool false),(100000,.row .own 9 T)]):=by simp -implicitDefEqProofs [tg,Gp,vr,yA,vt,yB,yC]
def Mv(b fi:Int)(k:Kp)(R:List Kp):∀(rev done:List Kp),(rev.length+done.length+R.length+1<=1073741824)->∃j:Nat,
  aX (aA (ev LI TT) (aB TT) tg) [(0,.ref 100000 []),(1,.int .i64 0),(2,.int .i64 b),(3,.fn 123 []),(8,.int .i64 fi),(9,.int .i64 (rev.length:Nat)),(100000,.row .own 9 ((rev.reverse++k::(done++R)).map (av .own)))]=some (.exit 2,[(0,.ref 100000 []),(1,.int .i64 0),(2,.int .i64 b),(3,.fn 123 []),(8,.int .i64 fi),(9,.int .i64 (j:Nat)),(34,.bool false),(100000,.row .own 9 ((xE Kp.seq k rev done++R).map (av .own)))])
 |[],done,_=>by refine⟨0,?_⟩;rw[eP];have:=TI b fi ((k::(done++R)).map (av .own));simp only[List.reverse_nil,j9,jl];rw[show (((0:Nat):Int))=0 from rfl,this];rfl
 |x::rev,done,hb=>by
  simp only[cV] at hb;have hl:((x::rev).reverse++k::(done++R)).length=rev.length+done.length+R.length+2:=by simp;omega
  have e1:(x::rev).reverse++k::(done++R)=rev.reverse++x::k::(done++R):=by simp
  have hx:((rev.reverse++x::k::(done++R)).map (av .own))[rev.length]'(by simp)=av .own x:=by simp
  have hk:((rev.reverse++x::k::(done++R)).map (av .own))[rev.length+1]'(by simp)=av .own k:=by simp
  rw[e1,cV];unfold xE;by_cases g:k.seq<x.seq
  ·rw[aq g];obtain⟨j,hj⟩:=Mv b fi k R rev (x::done) (by simp;omega);refine⟨j,?_⟩;have hs:=TH 0 b fi ((rev.reverse++x::k::(done++R)).map (av .own)) rev.length x k (by simp) hx hk (by rw[cW,<-e1,hl];omega) rfl g;rw[eP,hs];have e2:(((rev.reverse++x::k::(done++R)).map (av .own)).set (rev.length+1) (av .own x)).set rev.length (av .own k)=(rev.reverse++k::((x::done)++R)).map (av .own):=by have:=aeW (rev.reverse.map (av .own)) (av .own x) (av .own k) ((done++R).map (av .own)) rev.length (by simp);first|(simp;done)|simpa using this
   rw[e2];exact hj
  ·rw[az g];refine⟨rev.length+1,?_⟩;have hs:=TG b fi ((rev.reverse++x::k::(done++R)).map (av .own)) rev.length x k (by simp) hx hk (by rw[cW,<-e1,hl];omega) g;rw[eP,hs];have e2:(x::rev).reverse++k::done++R=rev.reverse++x::k::(done++R):=by simp
   rw[e2];rfl
end M
set_option maxHeartbeats 4000000
namespace M
open Go
variable [Lb]
def Mw(n:Nat)(hn:n<=1073741824):∀(R S:List Kp),sW Kp.seq S->S.length+R.length=n->
  aX (aA (ev LI TT) (aB TT) vq) [(0,.ref 100000 []),(1,.int .i64 0),(2,.int .i64 n),(3,.fn 123 []),(8,.int .i64 (S.length:Nat)),(100000,.row .own 9 ((S++R).map (av .own)))]=some (.exit 0,[(0,.ref 100000 []),(1,.int .i64 0),(2,.int .i64 n),(3,.fn 123 []),(8,.int .i64 n),(14,.bool false),(100000,.row .own 9 ((R.foldl (λS k=>fZ Kp.seq k S) S).map (av .own)))])
 |[],S,ho,hl=>by
  have:S.length=n:=by simpa using hl
  subst this;rw[eP];simp -implicitDefEqProofs [vq,Gq]
 |k::R,S,ho,hl=>by
  simp only[cV] at hl;have hlt:S.length<n:=by omega
  have hw:=cw S.length (by omega);obtain⟨j,hj⟩:=Mv n (S.length:Nat) k R S.reverse [] (by simp;omega);rw[P6 S.reverse [] (by simpa using ho) (by simp)] at hj;have e1:S.reverse.reverse++k::([]++R)=S++k::R:=by simp
  have e2:S.reverse.reverse++[]=S:=by simp
  rw[e1,e2,Tt] at hj
  have hstep:aA (ev LI TT) (aB TT) vq [(0,.ref 100000 []),(1,.int .i64 0),(2,.int .i64 n),(3,.fn 123 []),(8,.int .i64 (S.length:Nat)),(100000,.row .own 9 ((S++k::R).map (av .own)))]=some (.normal,[(0,.ref 100000 []),(1,.int .i64 0),(2,.int .i64 n),(3,.fn 123 []),(8,.int .i64 ((fZ Kp.seq k S).length:Nat)),(100000,.row .own 9 ((fZ Kp.seq k S++R).map (av .own)))]):=by
   rw[P4];try simp at hj
   simp -implicitDefEqProofs [vq,Gq,hlt,hw,hj]
  rw[eP,hstep];exact Mw n hn R (fZ Kp.seq k S) (P5 ho) (by rw[P4];omega)
def Wx(l:List Kp)(hb:l.length<=1073741824):ev LI TT 173 [.row .own 9 (l.map (av .own)),.int .i64 0,.int .i64 l.length,.fn 123 []]=some (.aj [],[.row .own 9 ((pM Kp.seq l).map (av .own)),.dead,.dead,.dead]):=by
 rw[aF (b:=Cv) (rs:=[]) (n:=4) rfl rfl];cases l with
 |nil=>
  have h:aX (aA (ev LI TT) (aB TT) vq) [(0,.ref 100000 []),(1,.int .i64 0),(2,.int .i64 0),(3,.fn 123 []),(8,.int .i64 1),(100000,.row .own 9 [])]=some (.exit 0,[(0,.ref 100000 []),(1,.int .i64 0),(2,.int .i64 0),(3,.fn 123 []),(8,.int .i64 1),(14,.bool false),(100000,.row .own 9 [])]):=by rw[eP];simp -implicitDefEqProofs [vq,Gq]
  have h1:IntKind.i64.wrap 1=1:=dN (by omega) (by omega);simp -implicitDefEqProofs [Cv,h,h1,pM]
 |cons a l=>
 have h:=Mw (a::l).length hb l [a] (by simp[sW]) (by simp;omega);have h1:IntKind.i64.wrap 1=1:=dN (by omega) (by omega);have e:pM Kp.seq (a::l)=l.foldl (λS k=>fZ Kp.seq k S) [a]:=rfl;rw[e];generalize l.foldl (λS k=>fZ Kp.seq k S) [a]=Z at h⊢;try simp at h
 simp -implicitDefEqProofs [Cv,h,h1,vr,yA,vt,yB,yC];all_goals (repeat' split)<;>first|rfl|omega|(simp_all;done)|(simp_all;omega)|skip
def Wy(l:List Kp)(hb:l.length<=15):ev LI TT 152 [.row .own 9 (l.map (av .own)),.int .i64 l.length,.fn 123 []]=some (.aj [],[.row .own 9 ((pM Kp.seq l).map (av .own)),.dead,.dead]):=by
 rw[aF (b:=Gr) (rs:=[]) (n:=3) rfl rfl];have h0:¬(20:Int)<=l.length:=by omega
 have h0':¬(20:Int)<l.length:=by omega
 have h1:aX (aA (ev LI TT) (aB TT) Lv) [(0,.ref 100000 []),(1,.int .i64 l.length),(2,.fn 123 []),(6,.int .i64 20),(7,.int .i64 0),(8,.int .i64 20),(100000,.row .own 9 (l.map (av .own)))]=some (.exit 0,[(0,.ref 100000 []),(1,.int .i64 l.length),(2,.fn 123 []),(6,.int .i64 20),(7,.int .i64 0),(8,.int .i64 20),(13,.bool false),(100000,.row .own 9 (l.map (av .own)))]):=by rw[eP];simp -implicitDefEqProofs [Lv,SR,h0]
 have h2:∀Z,aX (aA (ev LI TT) (aB TT) Lw) [(0,.ref 100000 []),(1,.int .i64 l.length),(2,.fn 123 []),(6,.int .i64 20),(100000,.row .own 9 Z)]=some (.exit 2,[(0,.ref 100000 []),(1,.int .i64 l.length),(2,.fn 123 []),(6,.int .i64 20),(30,.bool false),(100000,.row .own 9 Z)]):=by intro Z;rw[eP];simp -implicitDefEqProofs [Lw,SS,h0']
 have h3:=Wx l (by omega);try simp at h1 h3
 simp -implicitDefEqProofs [Gr,h1,h2,h3];all_goals (repeat' split)<;>first|rfl|omega|(simp_all;done)|(simp_all;omega)|skip
def Ww(l:List Kp)(hb:l.length<=15):ev LI TT 122 [.row .own 9 (l.map (av .own)),.fn 123 []]=some (.aj [],[.row .own 9 ((pM Kp.seq l).map (av .own)),.dead]):=by
 rw[aF (b:=Gn) (rs:=[]) (n:=2) rfl rfl];have u1:=Wy l hb;try simp at u1
 simp -implicitDefEqProofs [Gn,u1];all_goals (repeat' split)<;>first|rfl|omega|(simp_all;done)|(simp_all;omega)|skip
def Nb(s:Sh)(n:Int)(hs:0<=s.seq/\s.seq<=1000000)(hn:0<=n/\n<=1000000):ev LI TT 120 [.ptr .own (bH .own s),.int .i64 n]=some (.aj [],[.ptr .own (bH .own ⟨s.bp,s.aG,s.aW,s.next,if n<100000 then max s.seq (n+1) else s.seq⟩),.dead]):=by
 rw[aF (b:=xq) (rs:=[]) (n:=2) rfl rfl];have hw:IntKind.i64.wrap (n+1)=n+1:=dN (by omega) (by omega);by_cases g:n<100000;rotate_left;·simp -implicitDefEqProofs [xq,g]
 by_cases g2:n+1>s.seq
 ·have e:max s.seq (n+1)=n+1:=by omega
  have g3:s.seq<n+1:=by omega
  simp -implicitDefEqProofs [xq,g,g2,g3,hw,e]
 have e:max s.seq (n+1)=s.seq:=by omega
 have g3:¬s.seq<n+1:=by omega
 simp -implicitDefEqProofs [xq,g,g2,g3,hw,e];all_goals (repeat' split)<;>first|rfl|omega|(simp_all;done)|(simp_all;omega)|skip
def Rg(s:ah):0<=(cY s).1/\(cY s).1<=100000:=by
 cases h:(cY s).2.2;·rw[Rh h];simp
 ·have:=FU h;omega
def Uf(d:bZ)(hd:fA d=true)(hwd:dA d<=16777216):
  aX (aA (ev LI TT) (aB TT) uE) [(0,.ai 100000 [] 0 0),(8,.int .i64 0),(100000,.ptr .own (bH .own ⟨d,[],[],5,1⟩))]=
  (match iI (nU d) 0 (List.range 5) ([],0) with
   |.inl g=>some (.exit 0,[(0,.ai 100000 [] 0 0),(8,.int .i64 5),(9,.bool false),(100000,.ptr .own (bH .own ⟨d,[],g.1,5,g.2+1⟩))])
   |.inr e=>some (.ret,[(0,.ai 100000 [] 0 0),(3,.int .i64 e.2.1),(6,.ptr .own (dH e.2.2.1)),(8,.int .i64 (e.2.2.2:Nat)),(31,.bool true),(100000,.ptr .own (bH .own ⟨d,[],e.1.1,5,e.1.2+1⟩))])):=by
 obtain⟨k0,k1,k2⟩:=qQ hd
 have:=Qq (xt:=0) (f:=aA (ev LI TT) (aB TT) uE) (List.range 5) (λi (g:List Bn×Int)=>[(0,.ai 100000 [] 0 0),(8,.int .i64 i),(100000,.ptr .own (bH .own ⟨d,[],g.1,5,g.2+1⟩))]) (nU d)
  (λg=>[(0,.ai 100000 [] 0 0),(8,.int .i64 5),(9,.bool false),(100000,.ptr .own (bH .own ⟨d,[],g.1,5,g.2+1⟩))])
  (λe=>(.ret,[(0,.ai 100000 [] 0 0),(3,.int .i64 e.2.1),(6,.ptr .own (dH e.2.2.1)),(8,.int .i64 (e.2.2.2:Nat)),(31,.bool true),(100000,.ptr .own (bH .own ⟨d,[],e.1.1,5,e.1.2+1⟩))]))
  (λi g=>(∀b∈g.1,eT b=true)/\g.1.length<=i/\0<=g.2/\g.2<100000) ([],0) (by simp) (λi b g hi hl hg=>?_) (λi b g g' hi hg nK=>(Km d hg).1 g' nK) (λg hg=>?_)
 ·refine Eq.trans ?_ (this.trans ?_);·simp
  ·cases iI (nU d) 0 (List.range 5) ([],0) with
   |inl g=>rfl
   |inr e=>rfl
 ·have IJ:i<5:=by simpa using hl
  have mL:(i:Int)<5:=by omega
  have hw:=cw i (by omega);have u1:=MZ d i (by omega) (by omega) (by omega);have hgw:=OX d i;have u2:=M5 (dV d i) (by omega);have hrl:=Rf (dV d i);have zX:=Rg (dV d i);have u3:=Vm (cY (dV d i)).2.1 (by omega);have hlz:(g.1.length+1)*48<=140737488355328:=by omega
  unfold nU;generalize cY (dV d i)=rr at u2 u3 hrl zX⊢;obtain⟨n,bd,ok⟩:=rr;simp only at u2 u3 hrl zX⊢;generalize iO bd=br at u3⊢;obtain⟨⟨bk,ba,bb,bt⟩,G6⟩:=br;have u4:=Nb ⟨d,[],g.1++[⟨bk,ba,bb,bt⟩],5,g.2+1⟩ n (by simp only;omega) (by omega);have uo:(if n<100000 then max (g.2+1) (n+1) else g.2+1)=BJ g.2 n+1:=by unfold BJ;split<;>omega
  simp only[uo] at u4;simp at u1 u2 u3 u4;cases ok;·simp -implicitDefEqProofs [uE,Bc,xo,xp,mL,hw,u1,u2,u3,lv]
  cases G6;·simp -implicitDefEqProofs [uE,Bc,xo,xp,mL,hw,u1,u2,u3,lv]
  simp -implicitDefEqProofs [uE,Bc,xo,xp,mL,hw,u1,u2,u3,u4,lv,hlz,cZ]
 ·simp -implicitDefEqProofs [uE,Bc]
def VW(d:bZ)(hd:fA d=true)(hwd:dA d<=16777216):ev LI TT 73 [.ptr .own (bH .own ⟨d,[],[],5,1⟩)]=some (.aj [],[.ptr .own (bH .own ⟨d,[],(gw d).1,5,(gw d).2+1⟩)]):=by
 rw[aF (b:=Bd) (rs:=[]) (n:=1) rfl rfl];have u1:=Uf d hd hwd;try simp at u1
 unfold gw;cases hr:iI (nU d) 0 (List.range 5) ([],0) with
 |inl g=>rw[hr] at u1;simp at u1;simp -implicitDefEqProofs [Bd,u1,G7]
 |inr e=>
 rw[hr] at u1;simp at u1;simp -implicitDefEqProofs [Bd,u1,u1,G7,xo,xp];all_goals (repeat' split)<;>first|rfl|omega|(simp_all;done)|(simp_all;omega)|skip
end M
set_option maxHeartbeats 4000000
namespace M
open Go
variable [Lb]
def Qu(d:bZ):wL bK (gw d).1<=1000:=by have:=Kl d;have:=q8 (w:=bK) (n:=120) (m:=5) (l:=(gw d).1) (λb hb=>UY (this.1 b hb)) this.2.1;omega
def Ug(d:bZ)(bs:List Bn)(m:Int)(hd:fA d=true)(hwd:dA d<=16777216)(Pk:wL bK bs<=1000)(hm:0<=m/\m<100000):
  aX (aA (ev LI TT) (aB TT) qE) [(0,.ai 100000 [] 0 0),(3,.row .own 9 []),(4,.int .i64 5),(100000,.ptr .own (bH .own ⟨d,[],bs,5,m+1⟩))]=
  some (.exit 0,[(0,.ai 100000 [] 0 0),(3,.row .own 9 ((o7 bs d m).1.map (av .own))),(4,.int .i64 20),(11,.bool false),(100000,.ptr .own (bH .own ⟨d,[],bs,5,(o7 bs d m).2+1⟩))]):=by
 obtain⟨k0,k1,k2⟩:=qQ hd
 have:=mR (xt:=0) (f:=aA (ev LI TT) (aB TT) qE) (List.range 15) (λi (g:List Kp×Int)=>[(0,.ai 100000 [] 0 0),(3,.row .own 9 (g.1.map (av .own))),(4,.int .i64 ((5+i:Nat):Int)),(100000,.ptr .own (bH .own ⟨d,[],bs,5,g.2+1⟩))]) (xQ bs d)
  (λg=>[(0,.ai 100000 [] 0 0),(3,.row .own 9 (g.1.map (av .own))),(4,.int .i64 20),(11,.bool false),(100000,.ptr .own (bH .own ⟨d,[],bs,5,g.2+1⟩))])
  (λi g=>i<=15/\vL i g) ([],m) ⟨by omega,⟨by simp,by simp,hm,by simp,by simp,by simp⟩⟩ (λi b g hi hl hg=>?_) (λi b g hi hg=>?_) (λg hg=>?_)
 ·refine Eq.trans ?_ this;simp
 ·have IJ:i<15:=by simpa using hl
  obtain⟨at_,lf⟩:∃a,((5+i:Nat):Int)=a:=⟨_,rfl⟩;have mL:at_<20:=by omega
  have hw:IntKind.i64.wrap (at_+1)=at_+1:=dN (by omega) (by omega);have aaq:((5+(i+1):Nat):Int)=at_+1:=by omega
  have u1:=MZ d at_ (by omega) (by omega) (by omega);have hgw:=OX d at_;have u2:=M5 (dV d at_) (by omega);have hrl:=Rf (dV d at_);have zX:=Rg (dV d at_);have u3:=VL (cY (dV d at_)).2.1 (by omega);have how:=ac0 (cY (dV d at_)).2.1;have iC:=hg.2.n;have hlz:(g.1.length+1)*136<=140737488355328:=by omega
  have hgm:=hg.2.m;unfold xQ;rw[lf,aaq];generalize cY (dV d at_)=rr at u2 u3 hrl zX how⊢;obtain⟨n,bd,ok⟩:=rr;simp only at u2 u3 hrl zX how⊢;generalize jD bd=br at u3 how⊢;obtain⟨⟨op,on,ov,⟨rs,rf,rb⟩,ot⟩,G6⟩:=br;simp only at how;have u4:=Nb ⟨d,[],bs,5,g.2+1⟩ n (by simp only;omega) (by omega);have u5:=C3 bs ⟨op,on,ov,⟨rs,rf,rb⟩,ot⟩ (by omega) (by omega);simp only at u5⊢;generalize jx bs ⟨op,on,ov,⟨rs,rf,rb⟩,ot⟩=hb at u5⊢;simp at u1 u2 u3;cases ok;·simp -implicitDefEqProofs [qE,uF,mL,hw,u1,u2,u3,lv]
  cases G6;·simp -implicitDefEqProofs [qE,uF,mL,hw,u1,u2,u3,lv]
  by_cases gq:n<100000;rotate_left
  ·have DH:100000<=n:=by omega
   simp -implicitDefEqProofs [qE,uF,mL,hw,u1,u2,u3,lv,gq,DH]
  have DH:¬100000<=n:=by omega
  have uo:(if n<100000 then max (g.2+1) (n+1) else g.2+1)=max g.2 n+1:=by rw[aq gq];omega
  simp only[uo] at u4;simp at u4 u5;cases hb;·simp -implicitDefEqProofs [qE,uF,mL,hw,u1,u2,u3,u4,u5,lv,hlz,cZ,gq,DH]
  ·simp -implicitDefEqProofs [qE,uF,mL,hw,u1,u2,u3,u4,u5,lv,gq,DH]
 ·have IJ:i<15:=by have:=(aQ.1 hi).1;simpa using this
  exact⟨by omega,QC bs d IJ b hg.2⟩
 ·simp -implicitDefEqProofs [qE,uF]
def VX(d:bZ)(bs:List Bn)(m:Int)(hd:fA d=true)(hwd:dA d<=16777216)(Pk:wL bK bs<=1000)(hm:0<=m/\m<100000):ev LI TT 74 [.ptr .own (bH .own ⟨d,[],bs,5,m+1⟩)]=some (.row .own 9 ((pM Kp.seq (o7 bs d m).1).map (av .own)),[.ptr .own (bH .own ⟨d,[],bs,5,(o7 bs d m).2+1⟩)]):=by
 rw[aF (b:=EG) (rs:=[.t 2]) (n:=1) rfl rfl];have u1:=Ug d bs m hd hwd Pk hm;try simp at u1
 have u2:=Ww (o7 bs d m).1 (acf bs d m hm);try simp at u2
 simp -implicitDefEqProofs [EG,u1,u2];all_goals (repeat' split)<;>first|rfl|omega|(simp_all;done)|(simp_all;omega)|skip
def Wd(x k:Kp)(hx:aZ x.obj<=1073741824)(hk:aZ k.obj<=1073741824):ev LI TT 76 [.agg (av .af x),.ptr .af (av .af k)]=some (.bool (decide (x.seq=k.seq)||kR x.obj k.obj),[.dead,.dead]):=by
 rw[aF (b:=Fe) (rs:=[.t 3]) (n:=2) rfl rfl];have u1:=Nj x.obj k.obj hx hk;try simp at u1
 by_cases g:x.seq=k.seq;all_goals
 simp -implicitDefEqProofs [Fe,u1,g];all_goals (repeat' split)<;>first|rfl|omega|(simp_all;done)|(simp_all;omega)|skip
def Ue(d:bZ)(bs:List Bn)(sq:Int)(all:List Kp)(akG:all.length<=15)(hall:∀k∈all,GI k):
  aX (aA (ev LI TT) (aB TT) xA) [(2,.ptr .own (bH .own ⟨⟨[],[]⟩,[],[],0,0⟩)),(3,.ptr .own (bH .own ⟨d,[],bs,5,sq⟩)),(4,.row .own 9 (all.map (av .own))),(12,.ref 4 []),(13,.int .i64 all.length),(14,.int .i64 0)]=
  some (.exit 0,[(2,.ptr .own (bH .own ⟨⟨[],[]⟩,[],[],0,0⟩)),(3,.ptr .own (bH .own ⟨d,(qJ all).1,bs,(qJ all).2,sq⟩)),(4,.row .own 9 (all.map dn)),(12,.ref 4 []),(13,.int .i64 all.length),(14,.int .i64 all.length),(15,.bool false)]):=by
 have:=mR (xt:=0) (f:=aA (ev LI TT) (aB TT) xA) all (λi (g:List Kp×Int)=>[(2,.ptr .own (bH .own ⟨⟨[],[]⟩,[],[],0,0⟩)),(3,.ptr .own (bH .own ⟨d,g.1,bs,g.2,sq⟩)),(4,.row .own 9 ((all.take i).map dn++(all.drop i).map (av .own))),(12,.ref 4 []),(13,.int .i64 all.length),(14,.int .i64 i)]) (xL all)
  (λg=>[(2,.ptr .own (bH .own ⟨⟨[],[]⟩,[],[],0,0⟩)),(3,.ptr .own (bH .own ⟨d,g.1,bs,g.2,sq⟩)),(4,.row .own 9 (all.map dn)),(12,.ref 4 []),(13,.int .i64 all.length),(14,.int .i64 all.length),(15,.bool false)])
  (λi g=>g.1.length<=i) ([],5) (by simp) (λi b g hi hl hg=>?_) (λi b g hi hg=>?_) (λg hg=>?_)
 ·rw[abX] at this;refine Eq.trans ?_ this;simp
 ·obtain⟨_,rfl⟩:=aQ.1 hi;have hw:=cw i (by omega);have hlz:(g.1.length+1)*136<=140737488355328:=by omega
  obtain⟨T,hT⟩:∃T,(all.take i).map dn++(all.drop i).map (av .own)=T:=⟨_,rfl⟩;have hk:=hall _ (cU hl);have u1:=Nn (all.drop (i+1)) all[i] 76 (λx=>decide (x.seq=(all[i]).seq)||kR x.obj (all[i]).obj) rfl (λx hx=>Wd x all[i] (by have:=BM (hall x (Tc hx)).o;omega) (by have:=BM hk.o;omega)) (by simp;omega);have u2:=Nh (all[i]).at_ hk.a;have hlb:Fx all i all[i]= !bT (λx=> !(decide (x.seq=(all[i]).seq)||kR x.obj (all[i]).obj)) (all.drop (i+1)):=by unfold Fx bT;rw[List.all_eq_not_any_not];simp
  have Is:T.length=all.length:=by rw[<-hT];simp;omega
  have Ir:i<T.length:=by omega
  have e:all.drop i=all[i]::all.drop (i+1):=nq hl;have PB:((all.take i).map dn).length=i:=by rw[cW,CH];omega
  have DO:T[i]=av .own all[i]:=by
   have h2:T[i]?=some (av .own all[i]):=by rw[<-hT,nr (by omega),PB,Gx,e];rfl
   exact(aQ.1 h2).2
  have Pf:T.set i (dn all[i])=(all.take (i+1)).map dn++(all.drop (i+1)).map (av .own):=by rw[<-hT,LO _ _ (by omega),PB,Gx,e,bq,aO,yE hl,kg,rA];rfl
  have hml:∀(l:List (List X)),X.cl .af l=l.map (X.dQ .af):=λl=>by
   induction l with
   |nil=>rfl
   |cons a l ih=>simp[X.cl,ih]
  have kH:((X.cl .af (T.set i (dn all[i]))).take all.length).drop (i+1)=(all.map (av .af)).drop (i+1):=by
   have hd1:(((all.take (i+1)).map dn).map (X.dQ .af)).length=i+1:=by rw[cW,cW,CH];omega
   rw[Tj (by rw[hml,cW,GH];omega),Pf,hml,kg];rw[List.drop_left' hd1,cH,<-mh];apply cu;intro x _;simp
  have hm:=qN T i _ (aQ.2 ⟨Ir,DO⟩);rw[hT,<-Pf];unfold xL;rw[hlb];generalize bT (λx=> !(decide (x.seq=(all[i]).seq)||kR x.obj (all[i]).obj)) (all.drop (i+1))=q at u1⊢;have mL:(i:Int)<all.length:=by omega
  have z7:(i:Int)+1<=all.length:=by omega
  have hc0:(0:Int)<=(i:Int)+1:=by omega
  have ho:aB TT 76=true:=rfl;have htk:T.take all.length=T:=Tj (by omega);rw[<-Is] at htk;try simp[dn] at u1 u2 DO hm kH
  cases q;·simp -implicitDefEqProofs [xA,Ff,hl,mL,hw,Ir,Is,DO,hm,kH,z7,hc0,u1,u2,gQ,gP,fB,eY,cZ,hlz,dn,htk]
  ·simp -implicitDefEqProofs [xA,Ff,hl,mL,hw,Ir,Is,DO,hm,kH,z7,hc0,u1,u2,gQ,gP,fB,eY,cZ,hlz,dn,htk]
 ·unfold xL;split;·omega
  ·simp;omega
 ·simp -implicitDefEqProofs [xA,Ff]
end M
set_option maxHeartbeats 4000000
namespace M
open Go
variable [Lb]
def FZ:Sh:=⟨⟨List.replicate 20 [],[]⟩,[],[],5,1⟩
def VE:ev LI TT 26 []=some (.agg (gL .own ⟨List.replicate 20 [],[]⟩),[]):=by rw[aF (b:=Eo) (rs:=[.c 0 2 true 33]) (n:=0) rfl rfl];simp -implicitDefEqProofs [Eo];all_goals (repeat' split)<;>first|rfl|omega|(simp_all;done)|(simp_all;omega)|skip
def VR:ev LI TT 15 []=some (.agg (bH .own FZ),[]):=by
 rw[aF (b:=EC) (rs:=[.c 0 6 true 37]) (n:=0) rfl rfl];have u1:=VE;try simp at u1
 simp -implicitDefEqProofs [EC,u1,FZ];all_goals (repeat' split)<;>first|rfl|omega|(simp_all;done)|(simp_all;omega)|skip
def Wc(d:bZ)(hd:fA d=true)(hwd:dA d<=16777216):ev LI TT 41 [.agg (gL .own d)]=some (.agg (bH .own (xR d)),[.dead]):=by rw[aF (b:=Fg) (rs:=[.c 2 6 true 37]) (n:=1) rfl rfl];have B:=Kl d;have O:=Fz d;have u1:=VW d hd hwd;have u2:=VX d (gw d).1 (gw d).2 hd hwd (Qu d) B.2.2;have u3:=Ue d (gw d).1 ((o6 d).2+1) (kK d) (Qr d) (λk hk=>(Qt hk).1);rw[show o7 (gw d).1 d (gw d).2=o6 d from rfl,show pM Kp.seq (o6 d).1=kK d from rfl] at u2;have e:xR d=⟨d,(qJ (kK d)).1,(gw d).1,(qJ (kK d)).2,(o6 d).2+1⟩:=rfl;rw[e];clear e B O;generalize qJ (kK d)=lk at u3⊢;generalize kK d=all at u2 u3;generalize o6 d=od at u2 u3⊢;generalize gw d=mb at u1 u2 u3⊢;obtain⟨aG,nx⟩:=lk;obtain⟨od1,od2⟩:=od;obtain⟨bs,ms⟩:=mb;simp at u1 u2 u3;simp -implicitDefEqProofs [Fg,u1,u2,u3];all_goals (repeat' split)<;>first|rfl|omega|(simp_all;done)|(simp_all;omega)|skip
end M
namespace M
open Go
variable [Lb]
def KV(c:Ca)(k:Int):Option (Nat×Rp):=cO (λx=>decide (x.client=k)) 0 c.sent
def B3(c:Ca)(k:Int):aU:=(KV c k).elim ⟨0,[],[]⟩ λx=>x.2.resp
def KU(c:Ca)(k:Int):Bool:=(KV c k).isSome
def aeV{c:Ca}{x:Rp}(hx:x∈c.sent):aL x.resp<=bh c:=by
 have h1:=iu (w:=dM) hx;have h2:dM x=bg x.q+aL x.resp+aZ x.obj:=rfl;have h5:wL dM c.sent<=bh c:=by unfold bh;omega
 omega
def aeU{c:Ca}{x:Rp}(hx:x∈c.sent):x.resp.fields.length<=bh c:=by have h1:=aeV hx;have h2:aL x.resp=wL aN x.resp.fields+x.resp.body.length:=rfl;have h3:=bC (w:=aN) x.resp.fields;omega
def RJ(c:Ca):c.sent.length<=bh c:=by
 have h4:=bC (w:=dM) c.sent;have h5:wL dM c.sent<=bh c:=by unfold bh;omega
 omega
def TZ(c:Ca)(k:Int)(hc:bh c<=100000000):aX (aA (ev LI TT) (aB TT) A9) [(1,.int .i64 k),(2,.ptr .own (aJ .af c)),(4,.ptr .own [.int .i64 0,.row .own 2 [],.str ⟨#[]⟩]),(8,.ai 2 [] 0 9),(9,.row .af 18 (c.sent.map (ic .af))),(10,.int .i64 c.sent.length),(11,.int .i64 0)]=(cO (λx=>decide (x.client=k)) 0 (c.sent)).elim (some (.exit 0,[(1,.int .i64 k),(2,.ptr .own (aJ .af c)),(4,.ptr .own [.int .i64 0,.row .own 2 [],.str ⟨#[]⟩]),(8,.ai 2 [] 0 9),(9,.row .af 18 (c.sent.map (ic .af))),(10,.int .i64 c.sent.length),(11,.int .i64 (c.sent).length),(12,.bool false)])) λx=>some (.ret,(λ(i:Nat) b=>[(4,.ptr .own (cF .own (b).resp)),(5,.bool true)]) x.1 x.2):=by
 refine uN (f:=aA (ev LI TT) (aB TT) A9) (c.sent) (λi=>[(1,.int .i64 k),(2,.ptr .own (aJ .af c)),(4,.ptr .own [.int .i64 0,.row .own 2 [],.str ⟨#[]⟩]),(8,.ai 2 [] 0 9),(9,.row .af 18 (c.sent.map (ic .af))),(10,.int .i64 c.sent.length),(11,.int .i64 i)]) (λx=>decide (x.client=k)) (λ(i:Nat) b=>[(4,.ptr .own (cF .own (b).resp)),(5,.bool true)]) _ (λi b hi hl=>?_) ?_
 ·have hw:=cw i (by have:=RJ c;omega);obtain⟨_,rfl⟩:=aQ.1 hi;have u1:=oz (c.sent[i]).resp (by have:=aeU (cU hl);omega);try simp at u1
  simp -implicitDefEqProofs [A9,Ju,hl,hw,u1]
 ·simp -implicitDefEqProofs [A9,Ju]
def VP(c:Ca)(k:Int)(hc:bh c<=100000000):ev LI TT 10 [.agg (aJ .af c),.int .i64 k]=some (.aj [.agg (cF .own (B3 c k)),.bool (KU c k)],[.dead,.dead]):=by
 rw[aF (b:=Ba) (rs:=[.c 4 3 true 47,.t 5]) (n:=2) rfl rfl];have u1:=TZ c k hc;try simp at u1
 unfold B3 KU KV;cases g:cO (λx=>decide (x.client=k)) 0 c.sent with
 |none=>rw[g] at u1;simp at u1;simp -implicitDefEqProofs [Ba,u1]
 |some x=>
 rw[g] at u1;simp at u1;simp -implicitDefEqProofs [Ba,u1];all_goals (repeat' split)<;>first|rfl|omega|(simp_all;done)|(simp_all;omega)|skip
def aeK(l:List Int):dS (l.map eI)=true:=by induction l<;>simp_all[dS,scalar]
def XI{c:Ca}:wL bM c.aD<=bh c:=by unfold bh;omega
def Lo:∀l:List Fl,(l.flatMap (·.who)).length+l.length<=wL bM l
 |[]=>by simp[wL]
 |f::l=>by
  have ih:=Lo l;have h:bM f=bg f.q+wL wO f.who+aZ f.old:=rfl;have h2:=bC (w:=wO) f.who;have h3:wL bM (f::l)=bM f+1+wL bM l:=by simp only[wL,cV,bq,Cz];omega
  rw[h3,jk,fO,cV];omega
def ah1(l:List Fl)(i:Nat)(hl:i<l.length):((l.take i).flatMap (·.who)).length+(l[i]).who.length<=wL bM l:=by
 have h1:=Lo l;have h2:l.flatMap (·.who)=(l.take i).flatMap (·.who)++(l.drop i).flatMap (·.who):=by rw[<-GF,CA]
 have h3:l.drop i=l[i]::l.drop (i+1):=nq hl;rw[h2,h3,fO,jk,fO] at h1;omega
def Uk(l:List Fl)(hc:wL bM l<=100000000):aX (aA (ev LI TT) (aB TT) Bt) [(0,.row .af 13 (l.map (bE .af))),(3,.row .own 1 (([]).map eI)),(6,.row .af 13 (l.map (bE .af))),(7,.int .i64 l.length),(8,.int .i64 0)]=some (.exit 0,[(0,.row .af 13 (l.map (bE .af))),(3,.row .own 1 ((((l).flatMap (λx=>x.who))).map eI)),(6,.row .af 13 (l.map (bE .af))),(7,.int .i64 l.length),(8,.int .i64 (l).length),(9,.bool false)]):=by
 refine qK (f:=aA (ev LI TT) (aB TT) Bt) (l) (λx=>x.who) (λi out=>[(0,.row .af 13 (l.map (bE .af))),(3,.row .own 1 ((out).map eI)),(6,.row .af 13 (l.map (bE .af))),(7,.int .i64 l.length),(8,.int .i64 i)]) (λout=>[(0,.row .af 13 (l.map (bE .af))),(3,.row .own 1 ((out).map eI)),(6,.row .af 13 (l.map (bE .af))),(7,.int .i64 l.length),(8,.int .i64 (l).length),(9,.bool false)]) (λi b out hi hl hout=>?_) (λout hout=>?_)
 ·have hw:=cw i (by have:=Lo l;omega);obtain⟨_,rfl⟩:=aQ.1 hi;have hwt:=ah1 l i hl;have hlz:(out.length+(l[i]).who.length)*8<=140737488355328:=by subst hout;omega
  simp -implicitDefEqProofs [Bt,JS,hl,hw,hlz,cZ,aeK]
 ·simp -implicitDefEqProofs [Bt,JS]
def Wg(l:List Fl)(hc:wL bM l<=100000000):ev LI TT 20 [.row .af 13 (l.map (bE .af))]=some (.row .own 1 ((l.flatMap (λx=>x.who)).map eI),[.dead]):=by
 rw[aF (b:=Fi) (rs:=[.t 2]) (n:=1) rfl rfl];have u1:=Uk l hc;try simp at u1
 simp -implicitDefEqProofs [Fi,u1];all_goals (repeat' split)<;>first|rfl|omega|(simp_all;done)|(simp_all;omega)|skip
def V3(c:Ca)(hc:bh c<=100000000):ev LI TT 9 [.agg (aJ .af c)]=some (.row .own 1 ((c.aD.flatMap (λx=>x.who)).map eI),[.dead]):=by
 rw[aF (b:=ET) (rs:=[.t 2]) (n:=1) rfl rfl];have uh:=XI (c:=c);have u1:=Wg c.aD (by omega);try simp at u1
 simp -implicitDefEqProofs [ET,u1];all_goals (repeat' split)<;>first|rfl|omega|(simp_all;done)|(simp_all;omega)|skip
end M
set_option maxHeartbeats 4000000
namespace M
open Go
variable [Lb]
end M
set_option maxHeartbeats 4000000
namespace M
open Go
variable [Lb]
def vZ:Ca:=⟨FZ,[],0,[],[]⟩
def Vo:ev LI TT 7 []=some (.agg (aJ .own vZ),[]):=by
 rw[aF (b:=Ed) (rs:=[.c 0 10 true 42]) (n:=0) rfl rfl];have u1:=VR;try simp at u1
 simp -implicitDefEqProofs [Ed,u1,vZ,FZ];all_goals (repeat' split)<;>first|rfl|omega|(simp_all;done)|(simp_all;omega)|skip
def uY(p:Int×Int)(x:Rp):Int×Int:=if x.kind=1 then (IntKind.i64.wrap (p.1+1),p.2) else if x.kind=2\/x.kind=3 then (p.1,IntKind.i64.wrap (p.2+1)) else p
def T0(c:Ca)(hc:bh c<=100000000)(g:Int×Int):aX (aA (ev LI TT) (aB TT) sI) [(1,.ptr .own (aJ .af c)),(4,.int .i64 g.1),(5,.int .i64 g.2),(8,.ai 1 [] 0 9),(9,.row .af 18 (c.sent.map (ic .af))),(10,.int .i64 c.sent.length),(11,.int .i64 0)]=some (.exit 0,[(1,.ptr .own (aJ .af c)),(4,.int .i64 ((c.sent).foldl (uY) g).1),(5,.int .i64 ((c.sent).foldl (uY) g).2),(8,.ai 1 [] 0 9),(9,.row .af 18 (c.sent.map (ic .af))),(10,.int .i64 c.sent.length),(11,.int .i64 (c.sent).length),(12,.bool false)]):=by
 refine Kk (f:=aA (ev LI TT) (aB TT) sI) (c.sent) (λi (g:Int×Int)=>[(1,.ptr .own (aJ .af c)),(4,.int .i64 g.1),(5,.int .i64 g.2),(8,.ai 1 [] 0 9),(9,.row .af 18 (c.sent.map (ic .af))),(10,.int .i64 c.sent.length),(11,.int .i64 i)]) (uY) (λg=>[(1,.ptr .own (aJ .af c)),(4,.int .i64 g.1),(5,.int .i64 g.2),(8,.ai 1 [] 0 9),(9,.row .af 18 (c.sent.map (ic .af))),(10,.int .i64 c.sent.length),(11,.int .i64 (c.sent).length),(12,.bool false)]) (λ_ _=>True) g trivial (λi b g hi hl _=>?_) (λ_ _ _ _ _=>trivial) (λg _=>?_)
 ·have hw:=cw i (by have:=RJ c;omega);obtain⟨_,rfl⟩:=aQ.1 hi;unfold uY;by_cases g1:(c.sent[i]).kind=1;·simp -implicitDefEqProofs [sI,xm,hl,hw,g1]
  by_cases g2:(c.sent[i]).kind=2;·simp -implicitDefEqProofs [sI,xm,hl,hw,g1,g2]
  by_cases g3:(c.sent[i]).kind=3;·simp -implicitDefEqProofs [sI,xm,hl,hw,g1,g2,g3]
  simp -implicitDefEqProofs [sI,xm,hl,hw,g1,g2,g3]
 ·simp -implicitDefEqProofs [sI,xm]
def VQ(c:Ca)(hc:bh c<=100000000):ev LI TT 11 [.agg (aJ .af c)]=some (.aj [.int .i64 ((c.sent.foldl uY (0,0)).1),.int .i64 ((c.sent.foldl uY (0,0)).2)],[.dead]):=by
 rw[aF (b:=EB) (rs:=[.t 2,.t 3]) (n:=1) rfl rfl];have u1:=T0 c hc (0,0);try simp at u1
 simp -implicitDefEqProofs [EB,u1];all_goals (repeat' split)<;>first|rfl|omega|(simp_all;done)|(simp_all;omega)|skip
def Wi(code:List UInt8):ev LI TT 5 [.row .af 1 (code.map eU)]=some (.bool (decide (1048576<code.length)),[.dead]):=by rw[aF (b:=Fv) (rs:=[.t 2]) (n:=1) rfl rfl];simp -implicitDefEqProofs [Fv];omega
def Wh(code:List UInt8)(hl:code.length<=1048576):∃a:Nat,a<=255/\ev LI TT 6 [.row .af 1 (code.map eU),.int .i64 1]=some (.int .i64 a,[.dead,.dead]):=by
 by_cases h:1<code.length
 ·refine⟨(code[1]).toNat,by have:=(code[1]).toNat_lt;omega,?_⟩;have hw:IntKind.i64.wrap ((code[1]).toNat:Int)=(code[1]).toNat:=by have:=(code[1]).toNat_lt;exact dN (by omega) (by omega)
  have h2:(1:Int)<code.length:=by omega
  rw[aF (b:=xJ) (rs:=[.t 4]) (n:=2) rfl rfl];simp -implicitDefEqProofs [xJ,h,h2,hw]
 ·refine⟨(7+code.length)%256,by omega,?_⟩;have h2:¬(1:Int)<code.length:=by omega
  have hw:IntKind.i64.wrap (7+(code.length:Int))=7+code.length:=dN (by omega) (by omega);have h7:IntKind.i64.wrap 7=7:=dN (by omega) (by omega);have ht:(7+(code.length:Int)).tmod 256=(((7+code.length)%256:Nat):Int):=by rw[GA (by omega)];omega
  rw[aF (b:=xJ) (rs:=[.t 4]) (n:=2) rfl rfl];simp -implicitDefEqProofs [xJ,h,h2,h7,hw,ht]
end M
set_option maxHeartbeats 4000000
namespace M
open Go
variable [Lb]
end M
set_option maxHeartbeats 4000000
namespace M
open Go
variable [Lb]
def acw(d:bZ):cR (xR d)<=dA d+25000:=by have h1:=Qu d;have h2:wL dm (jB (kK d))<=15*(1300+1):=q8 (λk hk=>BM (Qt ((Fw _).subset hk)).1.o) (mc (Fw _).length_le (Qr d));show dA d+wL dm (jB (kK d))+wL bK (gw d).1<=_;omega
end M
namespace M
open Go
variable [Lb]
def FG:(⟨#[97,103,101]⟩:ByteArray)=⟨jC.toArray⟩:=rfl
def MT(q:Rq)(o:Ob)(now:Int)(h1:bg q<=100000000)(h2:aZ o<=100000000)(h3:bI o.t)(h4:bI now):ev LI TT 84 [.agg (dy .af q),.agg (cD .af o),.int .i64 now]=some (.agg (cF .own (answer q o now)),[.dead,.dead,.dead]):=by
 rw[aF (b:=uy) (rs:=[.c 6 3 true 47]) (n:=3) rfl rfl];have hw:aZ o=o.path.length+wL wS o.names+wL wS o.values+aL o.resp:=rfl;have dW:aL o.resp=wL aN o.resp.fields+o.resp.body.length:=rfl;have sw:bg q=q.path.length+wL aN q.fields+q.body.length:=rfl;have l1:=bC (w:=aN) o.resp.fields;have l2:=bC (w:=aN) q.fields;have l3:=BL (jL o.resp.fields o.t now);have l4:=RQ o.resp;have l5:=bC (w:=aN) (o.resp.fields.filter jE);have l6:=KG o.resp.fields jC (dZ (jL o.resp.fields o.t now));have l7:=KG (o.resp.fields.filter jE) jC (dZ (jL o.resp.fields o.t now));have l8:jC.length=3:=rfl;unfold answer;have u1:=oz o.resp (by omega);try simp at u1
 have u2:=VO q o.resp.fields (by omega) (by omega);try simp at u2
 have u3:=V0 o.resp (by omega);try simp at u3
 have u4:=MR o.resp.fields o.t now (by omega) h3 h4;try simp at u4
 have u5:=Hj (jL o.resp.fields o.t now);try simp at u5
 have u6:=Hl o.resp.fields jC (dZ (jL o.resp.fields o.t now)) (by omega);try simp at u6
 have u7:=Hl (o.resp.fields.filter jE) jC (dZ (jL o.resp.fields o.t now)) (by omega);try simp at u7
 have u8:=tM ⟨o.resp.status,jb o.resp.fields jC (dZ (jL o.resp.fields o.t now)),o.resp.body⟩ (by unfold aL;simp only;omega);try simp at u8
 have u9:=tM ⟨304,jb (o.resp.fields.filter jE) jC (dZ (jL o.resp.fields o.t now)),[]⟩ (by unfold aL;simp;omega);try simp at u9
 have bw:=oz ⟨304,o.resp.fields.filter jE,[]⟩ (by simp only;omega);try simp at bw
 by_cases g1:yf q o.resp.fields=true
 ·by_cases g2:eZ ⟨304,jb (o.resp.fields.filter jE) jC (dZ (jL o.resp.fields o.t now)),[]⟩=true;·simp -implicitDefEqProofs [uy,u1,u2,u3,u4,u5,u6,u7,u8,u9,bw,g1,g2,FG,qX]
  ·simp -implicitDefEqProofs [uy,u1,u2,u3,u4,u5,u6,u7,u8,u9,bw,g1,g2,FG,qX]
 by_cases g2:eZ ⟨o.resp.status,jb o.resp.fields jC (dZ (jL o.resp.fields o.t now)),o.resp.body⟩=true;·simp -implicitDefEqProofs [uy,u1,u2,u3,u4,u5,u6,u7,u8,u9,bw,g1,g2,FG,qX]
 simp -implicitDefEqProofs [uy,u1,u2,u3,u4,u5,u6,u7,u8,u9,bw,g1,g2,FG,qX];all_goals (repeat' split)<;>first|rfl|omega|(simp_all;done)|(simp_all;omega)|skip
end M
set_option maxHeartbeats 4000000
namespace M
open Go
variable [Lb]
def wI(fs:List aH)(t now:Int):Bool:=decide (jL fs t now<(iQ fs).vN) && !(iQ fs).nc
def VI(fs:List aH)(hb:wL aN fs<=1073741824):ev LI TT 133 [.row .af 2 (fs.map aR)]=some (.int .i64 ((iQ fs).vN),[.dead]):=by
 rw[aF (b:=Ew) (rs:=[.t 2]) (n:=1) rfl rfl];have u1:=vW fs hb;try simp at u1
 simp -implicitDefEqProofs [Ew,u1];all_goals (repeat' split)<;>first|rfl|omega|(simp_all;done)|(simp_all;omega)|skip
def VG(fs:List aH)(t:Int)(now:Int)(hb:wL aN fs<=100000000)(h3:bI t)(h4:bI now):ev LI TT 81 [.row .af 2 (fs.map aR),.int .i64 t,.int .i64 now]=some (.bool (wI fs t now),[.dead,.dead,.dead]):=by
 rw[aF (b:=Eu) (rs:=[.t 6]) (n:=3) rfl rfl];have hfl:=bC (w:=aN) fs;unfold wI;have u1:=MR fs t now (by omega) h3 h4;try simp at u1
 have u2:=VI fs (by omega);try simp at u2
 have u3:=vW fs (by omega);try simp at u3
 by_cases g:jL fs t now<(iQ fs).vN;all_goals
 simp -implicitDefEqProofs [Eu,u1,u2,u3,g];all_goals (repeat' split)<;>first|rfl|omega|(simp_all;done)|(simp_all;omega)|skip
end M
set_option maxHeartbeats 4000000
namespace M
open Go
variable [Lb]
end M
set_option maxHeartbeats 4000000
namespace M
open Go
variable [Lb]
def nE(d:bZ)(keep:List Bool):bZ:=⟨qI (jY keep false) d.cells d.pending,[]⟩
def WS{d:bZ}(keep:List Bool)(h:fA d=true):fA (nE d keep)=true:=by obtain⟨h0,h1,h1'⟩:=qQ h;have:=Qe (jY keep false) d.cells d.pending;unfold fA nE;simp only[this,h1];rfl
def Mx(d:bZ)(keep:List Bool)(hb:d.pending.length<=9223372036854775807)(ho:GU d.pending)(hk:keep.length<=9223372036854775807)(cs:List ah)(hinv:cs.length=20):aX (aA (ev LI TT) (aB TT) xg) [(1,.row .af 1 (keep.map eB)),(2,.ptr .own (gL .af d)),(4,.ptr .own [.row .own 1 [],.row .own 2 []]),(5,.ptr .own [.row .own 1 ((cs).map eS),.row .own 2 []]),(16,.ai 2 [] 0 1),(17,.row .af 2 (d.pending.map eW)),(18,.int .i64 d.pending.length),(19,.int .i64 0)]=some (.exit 0,[(1,.row .af 1 (keep.map eB)),(2,.ptr .own (gL .af d)),(4,.ptr .own [.row .own 1 [],.row .own 2 []]),(5,.ptr .own [.row .own 1 (((foldI (jZ (jY keep false)) 0 (d.pending) cs)).map eS),.row .own 2 []]),(16,.ai 2 [] 0 1),(17,.row .af 2 (d.pending.map eW)),(18,.int .i64 d.pending.length),(19,.int .i64 (d.pending).length),(20,.bool false)]):=by
 refine mR (f:=aA (ev LI TT) (aB TT) xg) (d.pending) (λi (cs:List ah)=>[(1,.row .af 1 (keep.map eB)),(2,.ptr .own (gL .af d)),(4,.ptr .own [.row .own 1 [],.row .own 2 []]),(5,.ptr .own [.row .own 1 ((cs).map eS),.row .own 2 []]),(16,.ai 2 [] 0 1),(17,.row .af 2 (d.pending.map eW)),(18,.int .i64 d.pending.length),(19,.int .i64 i)]) (jZ (jY keep false)) (λcs=>[(1,.row .af 1 (keep.map eB)),(2,.ptr .own (gL .af d)),(4,.ptr .own [.row .own 1 [],.row .own 2 []]),(5,.ptr .own [.row .own 1 ((cs).map eS),.row .own 2 []]),(16,.ai 2 [] 0 1),(17,.row .af 2 (d.pending.map eW)),(18,.int .i64 d.pending.length),(19,.int .i64 (d.pending).length),(20,.bool false)]) (λi (cs:List ah)=>cs.length=20) cs hinv (λi b cs hi hl hinv=>?_) (λi b cs hi hinv=>?_) (λcs hinv=>?_)
 ·have hw:=cw i (by first|omega|(simp at hl;omega));obtain⟨_,rfl⟩:=aQ.1 hi;have h1:=ho _ (cU hl);have h2:(d.pending[i]).at_.toNat<cs.length:=by omega
  by_cases h4:i<keep.length;rotate_left;·simp -implicitDefEqProofs [xg,Em,hl,hw,h1,h2,jZ,jY,h4]
  cases h5:keep[i];all_goals
  simp -implicitDefEqProofs [xg,Em,hl,hw,h1,h2,jZ,jY,h4,h5]
 ·rw[Ka];exact hinv
 ·simp -implicitDefEqProofs [xg,Em]
def VD(d:bZ)(keep:List Bool)(h:fA d=true)(hk:keep.length<=9223372036854775807):ev LI TT 42 [.agg (gL .af d),.row .af 1 (keep.map eB)]=some (.agg (gL .own (nE d keep)),[.dead,.dead]):=by
 rw[aF (b:=En) (rs:=[.c 4 2 true 33]) (n:=2) rfl rfl];obtain⟨h0,h1,h1'⟩:=qQ h;have u2:=Mx d keep (by omega) h0 hk d.cells h1;try simp at u2
 have u1:=MY d (by omega);try simp at u1
 have u2:=Fs d.cells (by omega);try simp at u2
 rw[h] at u1;have v2:=Mx d keep (by omega) h0 hk d.cells h1;try simp at v2
 simp -implicitDefEqProofs [En,u1,u2,v2,nE,qI];all_goals (repeat' split)<;>first|rfl|omega|(simp_all;done)|(simp_all;omega)|skip
def NM(d:bZ)(keep:List Bool):dA (nE d keep)<=dA d:=by have h:=H8 (jY keep false) d.pending 0 d.cells;show wL wS (qI (jY keep false) d.cells d.pending)+wL e9 []<=wL wS d.cells+wL e9 d.pending;have e:wL e9 []=0:=rfl;unfold qI;omega
end M
set_option maxHeartbeats 4000000
namespace M
open Go
variable [Lb]
class Fd extends Lb where
 f:∀(s:Sh) (q:Rq),cR s<=1073741824->bg q<=1073741824->L 62 [.ptr .af (bH .af s),.agg (dy .af q)]=some (wD yl jx s q,[.dead,.dead])
def XA{s:Sh}{q:Rq}{o:Ob}(h:fW s q=some o):gR s=true/\∃k∈s.aG,k.obj=o/\OC s q k=true:=by
 unfold fW at h;split at h;·rename_i hok;unfold zq at h;obtain⟨k,hk,rfl⟩:=ni.1 h;exact⟨hok,k,by have:=Tb hk;simpa using this,rfl,List.find?_some hk⟩
 ·cases h
def OB{s:Sh}{q:Rq}:bI ((fW s q).getD ez).t/\aZ ((fW s q).getD ez)<=cR s:=by
 cases h:fW s q with
 |none=>exact⟨by unfold bI;simp[ez],by simp[ez,aZ,aL,wL]⟩
 |some o=>
  obtain⟨h1,k,h2,rfl,_⟩:=XA h;have h3:=aeY h1 h2;have h4:=yz h2;unfold dJ at h3;simp only[ax,bx] at h3;have h5:cR s=dA s.bp+wL dm s.aG+wL bK s.aW:=rfl;refine⟨?_,?_⟩;·unfold bI;simp only[vC];have:=h3.1.1.1.1.2;omega
  ·simp only[vC];omega
end M
set_option maxHeartbeats 4000000
namespace M
open Go
variable [Fd]
def VU(s:Sh)(q:Rq)(hs:cR s<=1073741824)(hq:bg q<=1073741824):ev LI TT 62 [.ptr .af (bH .af s),.agg (dy .af q)]=some (.aj [.agg (cD .own ((zq s q).getD ez)),.bool (zq s q).isSome],[.dead,.dead]):=by rw[jr rfl];exact Fd.f s q hs hq
end M
set_option maxHeartbeats 4000000
namespace M
open Go
variable [Fd]
def zg(q:Rq)(o:Ob)(found:Bool)(now:Int):Int:=if kV q=true then (if found=true then (if (wI o.resp.fields o.t now && !(iQ q.fields).nc)=true then 2 else 3) else 4) else 1
def iz(s:Sh)(q:Rq)(now:Int):Int:=zg q ((fW s q).getD ez) (fW s q).isSome now
def eE(s:Sh)(q:Rq)(now:Int):Ob:=if kV q=true then (fW s q).getD ez else ez
def V8(q:Rq)(o:Ob)(f:Bool)(now:Int)(hq:bg q<=100000000)(ho:aZ o<=100000000)(h3:bI o.t)(h4:bI now):ev LI TT 63 [.agg (dy .af q),.agg (cD .af o),.bool f,.int .i64 now]=some (.int .i64 (zg q o f now),[.dead,.dead,.dead,.dead]):=by
 rw[aF (b:=uH) (rs:=[.t 8]) (n:=4) rfl rfl];have hw:aZ o=o.path.length+wL wS o.names+wL wS o.values+aL o.resp:=rfl;have dW:aL o.resp=wL aN o.resp.fields+o.resp.body.length:=rfl;have D9:bg q=q.path.length+wL aN q.fields+q.body.length:=rfl;unfold zg;have u1:=Hs q (by omega);try simp at u1
 have u2:=VG o.resp.fields o.t now (by omega) h3 h4;try simp at u2
 have u3:=vW q.fields (by omega);try simp at u3
 generalize kV q=b1 at u1;generalize wI o.resp.fields o.t now=b2 at u2;generalize iQ q.fields=cc at u3;obtain⟨c1,c2,c3,c4,c5,c6⟩:=cc;try simp only at u3
 cases b1;·simp -implicitDefEqProofs [uH,u1]
 cases f;·simp -implicitDefEqProofs [uH,u1]
 cases b2;·simp -implicitDefEqProofs [uH,u1,u2,u3]
 cases c2;all_goals
 simp -implicitDefEqProofs [uH,u1,u2,u3];all_goals (repeat' split)<;>first|rfl|omega|(simp_all;done)|(simp_all;omega)|skip
end M
set_option maxHeartbeats 4000000
namespace M
open Go
variable [Lb]
def Ub(ks:List Kp)(hb:wL dm ks<=1073741824):aX (aA (ev LI TT) (aB TT) Bp) [(0,.row .af 9 (ks.map (av .af))),(3,.row .own 9 (([]).map (av .own))),(6,.row .af 9 (ks.map (av .af))),(7,.int .i64 ks.length),(8,.int .i64 0)]=some (.exit 0,[(0,.row .af 9 (ks.map (av .af))),(3,.row .own 9 ((((ks).flatMap (λk=>[k]))).map (av .own))),(6,.row .af 9 (ks.map (av .af))),(7,.int .i64 ks.length),(8,.int .i64 (ks).length),(9,.bool false)]):=by
 refine qK (f:=aA (ev LI TT) (aB TT) Bp) (ks) (λk=>[k]) (λi out=>[(0,.row .af 9 (ks.map (av .af))),(3,.row .own 9 ((out).map (av .own))),(6,.row .af 9 (ks.map (av .af))),(7,.int .i64 ks.length),(8,.int .i64 i)]) (λout=>[(0,.row .af 9 (ks.map (av .af))),(3,.row .own 9 ((out).map (av .own))),(6,.row .af 9 (ks.map (av .af))),(7,.int .i64 ks.length),(8,.int .i64 (ks).length),(9,.bool false)]) (λi b out hi hl hout=>?_) (λout hout=>?_)
 ·have hw:=cw i (by have:=bC (w:=dm) ks;omega);obtain⟨_,rfl⟩:=aQ.1 hi;have hlk:=bC (w:=dm) ks;have hm:=yz (cU hl);have hlo:out.length=i:=by rw[hout];exact wH (λk=>k) _ _ (by omega)
  have hlz:(i+1)*136<=140737488355328:=by omega
  have u1:=yX (ks[i]).obj (by omega);try simp at u1
  simp -implicitDefEqProofs [Bp,JP,hl,hw,u1,hlo,hlz,cZ]
 ·simp -implicitDefEqProofs [Bp,JP]
def V5(ks:List Kp)(hb:wL dm ks<=1073741824):ev LI TT 58 [.row .af 9 (ks.map (av .af))]=some (.row .own 9 (ks.map (av .own)),[.dead]):=by
 rw[aF (b:=EY) (rs:=[.t 2]) (n:=1) rfl rfl];have u1:=Ub ks hb;try simp at u1
 simp -implicitDefEqProofs [EY,u1];all_goals (repeat' split)<;>first|rfl|omega|(simp_all;done)|(simp_all;omega)|skip
def V7(s:Sh)(hb:cR s<=1073741824):ev LI TT 30 [.agg (bH .af s)]=some (.agg (bH .own s),[.dead]):=by
 rw[aF (b:=E3) (rs:=[.c 2 6 true 37]) (n:=1) rfl rfl];have jz:cR s=dA s.bp+wL dm s.aG+wL bK s.aW:=rfl;have abu:dA s.bp=wL wS s.bp.cells+wL e9 s.bp.pending:=rfl;have l1:=bC (w:=wS) s.bp.cells;have l2:=bC (w:=e9) s.bp.pending;have l3:=bC (w:=bK) s.aW;have u1:=V4 s.bp (by omega) (by omega);try simp at u1
 have u2:=V5 s.aG (by omega);try simp at u2
 have u3:=abQ s.aW (by omega);try simp at u3
 simp -implicitDefEqProofs [E3,u1,u2,u3];all_goals (repeat' split)<;>first|rfl|omega|(simp_all;done)|(simp_all;omega)|skip
end M
set_option maxHeartbeats 4000000
namespace M
open Go
variable [Lb]
structure Pl (A:List X):Prop where
 o:∀ks,X.pF ks A=A
 k:∀r p,X.gv r p A=A
 m:X.dQ .af A=A
 b:X.bare.iP A=true
def lU(z:X)(s:Sh):List X:=[.row .af 1 (s.bp.cells.map eS),.row .af 2 (s.bp.pending.map eW),z,.row .af 4 (s.aW.map dH),.int .i64 s.next,.int .i64 s.seq]
def VV(k:Kp)(z:X)(s:Sh)(o:Ob)(hk:aZ k.obj<=1073741824)(ho:aZ o<=1073741824):ev LI TT 111 [.agg (av .af k),.ptr .af [.ptr .af (lU z s)],.ptr .af (cD .af o)]=some (.bool (decide (k.at_=s.next)||kR k.obj o),[.dead,.dead,.dead]):=by
 rw[aF (b:=EE) (rs:=[.t 4]) (n:=3) rfl rfl];have u1:=Nj k.obj o hk ho;try simp at u1
 by_cases g:k.at_=s.next
 all_goals
 simp -implicitDefEqProofs [EE,u1,g,lU];all_goals (repeat' split)<;>first|rfl|omega|(simp_all;done)|(simp_all;omega)|skip
def VT(k:Kp)(z:X)(s:Sh)(hk:aZ k.obj<=1073741824)(hs:wL bK s.aW<=1073741824):ev LI TT 116 [.agg (av .af k),.ptr .af [.ptr .af (lU z s)]]=some (.bool (jx s.aW k.obj),[.dead,.dead]):=by
 rw[aF (b:=ED) (rs:=[.t 3]) (n:=2) rfl rfl];have u1:=C3 s.aW k.obj hs hk;try simp at u1
 simp -implicitDefEqProofs [ED,u1,lU];all_goals (repeat' split)<;>first|rfl|omega|(simp_all;done)|(simp_all;omega)|skip
def TJ(l:List Kp)(A:List X)(hA:Pl A)(gf:Nat)(p:Kp->Bool)(ho:aB TT gf=true)(hf:∀x∈l,ev LI TT gf [.agg (av .af x),.ptr .af A]=some (.bool (p x),[.dead,.dead]))(hb:l.length<=9223372036854775807):aX (aA (ev LI TT) (aB TT) lZ) [(0,.row .af 9 (l.map (av .af))),(1,.fn gf [.ptr .af A]),(7,.int .i64 l.length),(8,.int .i64 0)]=(cO p 0 (l)).elim (some (.exit 0,[(0,.row .af 9 (l.map (av .af))),(1,.fn gf [.ptr .af A]),(7,.int .i64 l.length),(8,.int .i64 (l).length),(9,.bool false)])) λx=>some (.ret,(λ(i:Nat) b=>[(4,.int .i64 i)]) x.1 x.2):=by
 refine uN (f:=aA (ev LI TT) (aB TT) lZ) (l) (λi=>[(0,.row .af 9 (l.map (av .af))),(1,.fn gf [.ptr .af A]),(7,.int .i64 l.length),(8,.int .i64 i)]) p (λ(i:Nat) b=>[(4,.int .i64 i)]) _ (λi b hi hl=>?_) ?_
 ·have hw:=cw i (by first|omega|(simp at hl;omega));obtain⟨_,rfl⟩:=aQ.1 hi;have u1:=hf l[i] (cU hl);try simp at u1
  simp -implicitDefEqProofs [lZ,vp,hl,hw,u1,ho,lD,hA.o,hA.k,hA.m,hA.b];all_goals (repeat' split)<;>first|rfl|omega|(simp_all;done)|(simp_all;omega)|skip
 ·simp -implicitDefEqProofs [lZ,vp,hA.o,hA.k,hA.m,hA.b]
def TK(l:List Kp)(A B:List X)(hA:Pl A)(hB:Pl B)(gf:Nat)(p:Kp->Bool)(ho:aB TT gf=true)(hf:∀x∈l,ev LI TT gf [.agg (av .af x),.ptr .af A,.ptr .af B]=some (.bool (p x),[.dead,.dead,.dead]))(hb:l.length<=9223372036854775807):aX (aA (ev LI TT) (aB TT) lZ) [(0,.row .af 9 (l.map (av .af))),(1,.fn gf [.ptr .af A,.ptr .af B]),(7,.int .i64 l.length),(8,.int .i64 0)]=(cO p 0 (l)).elim (some (.exit 0,[(0,.row .af 9 (l.map (av .af))),(1,.fn gf [.ptr .af A,.ptr .af B]),(7,.int .i64 l.length),(8,.int .i64 (l).length),(9,.bool false)])) λx=>some (.ret,(λ(i:Nat) b=>[(4,.int .i64 i)]) x.1 x.2):=by
 refine uN (f:=aA (ev LI TT) (aB TT) lZ) (l) (λi=>[(0,.row .af 9 (l.map (av .af))),(1,.fn gf [.ptr .af A,.ptr .af B]),(7,.int .i64 l.length),(8,.int .i64 i)]) p (λ(i:Nat) b=>[(4,.int .i64 i)]) _ (λi b hi hl=>?_) ?_
 ·have hw:=cw i (by first|omega|(simp at hl;omega));obtain⟨_,rfl⟩:=aQ.1 hi;have u1:=hf l[i] (cU hl);try simp at u1
  simp -implicitDefEqProofs [lZ,vp,hl,hw,u1,ho,lD,hA.o,hA.k,hA.m,hA.b,hB.o,hB.k,hB.m,hB.b];all_goals (repeat' split)<;>first|rfl|omega|(simp_all;done)|(simp_all;omega)|skip
 ·simp -implicitDefEqProofs [lZ,vp,hA.o,hA.k,hA.m,hA.b,hB.o,hB.k,hB.m,hB.b]
def Vj(l:List Kp)(A:List X)(hA:Pl A)(gf:Nat)(p:Kp->Bool)(ho:aB TT gf=true)(hf:∀x∈l,ev LI TT gf [.agg (av .af x),.ptr .af A]=some (.bool (p x),[.dead,.dead]))(hb:l.length<=9223372036854775807):ev LI TT 125 [.row .af 9 (l.map (av .af)),.fn gf [.ptr .af A]]=some (.int .i64 ((cO p 0 l).elim (-1) λx=>(x.1:Int)),[.dead,.dead]):=by
 rw[aF (b:=oa) (rs:=[.t 4]) (n:=2) rfl rfl];have u1:=TJ l A hA gf p ho hf hb;try simp at u1
 cases g:cO p 0 l with
 |none=>rw[g] at u1;simp at u1;simp -implicitDefEqProofs [oa,u1,hA.o,hA.k,hA.m,hA.b]
 |some x=>
 rw[g] at u1;simp at u1;simp -implicitDefEqProofs [oa,u1,hA.o,hA.k,hA.m,hA.b];all_goals (repeat' split)<;>first|rfl|omega|(simp_all;done)|(simp_all;omega)|skip
def Vk(l:List Kp)(A B:List X)(hA:Pl A)(hB:Pl B)(gf:Nat)(p:Kp->Bool)(ho:aB TT gf=true)(hf:∀x∈l,ev LI TT gf [.agg (av .af x),.ptr .af A,.ptr .af B]=some (.bool (p x),[.dead,.dead,.dead]))(hb:l.length<=9223372036854775807):ev LI TT 125 [.row .af 9 (l.map (av .af)),.fn gf [.ptr .af A,.ptr .af B]]=some (.int .i64 ((cO p 0 l).elim (-1) λx=>(x.1:Int)),[.dead,.dead]):=by
 rw[aF (b:=oa) (rs:=[.t 4]) (n:=2) rfl rfl];have u1:=TK l A B hA hB gf p ho hf hb;try simp at u1
 cases g:cO p 0 l with
 |none=>rw[g] at u1;simp at u1;simp -implicitDefEqProofs [oa,u1,hA.o,hA.k,hA.m,hA.b,hB.o,hB.k,hB.m,hB.b]
 |some x=>
 rw[g] at u1;simp at u1;simp -implicitDefEqProofs [oa,u1,hA.o,hA.k,hA.m,hA.b,hB.o,hB.k,hB.m,hB.b];all_goals (repeat' split)<;>first|rfl|omega|(simp_all;done)|(simp_all;omega)|skip
end M
set_option maxHeartbeats 400000
namespace M
open Go
variable [Lb]
def TE(A:List X)(hA:Pl A)(B:List X)(hB:Pl B)(gf:Nat)(p:Kp->Bool)(ho:aB TT gf=true)(T:List (List X))(v:Kp)(n f:Nat)(uf:n<T.length)(hv:T[n]=av .own v)(hfn:f<n)(u:Kp)(hF:T[f]=av .own u\/T[f]=dn u)(hb:T.length<=1073741824)(hf:ev LI TT gf [.agg (av .af v),.ptr .af A,.ptr .af B]=some (.bool (p v),[.dead,.dead,.dead])):aA (ev LI TT) (aB TT) j7 [(0,.ref 100000 []),(1,.fn gf [.ptr .af A,.ptr .af B]),(5,.int .i64 (f:Nat)),(6,.int .i64 ((n:Nat):Int)),(100000,.row .own 9 T)]=some (.normal,[(0,.ref 100000 []),(1,.fn gf [.ptr .af A,.ptr .af B]),(5,.int .i64 ((if p v=true then f else f+1:Nat):Int)),(6,.int .i64 ((n+1:Nat):Int)),(100000,.row .own 9 (if p v=true then T.set n (dn v) else (T.set n (dn v)).set f (av .own v)))]):=by
 have hw:=cw n (by omega);have dW:=cw f (by omega);have hm:=qN T n _ (aQ.2 ⟨uf,hv⟩);try simp at hf hv hm
 have zR:f<T.length:=by omega
 cases hp:p v
 ·rw[hp] at hf;have hne:¬n=f:=by omega
  have ur:¬f=n:=by omega
  have hm2:∀u',T[f]=u'->∀w g,(T.set n w).modify f g=(T.set n w).set f (g u'):=λu' h w g=>qN _ f _ (by simp[rC,hne,zR,h]) g;rcases hF with hF|hF;all_goals simp[dn] at hF
  all_goals have IP:=hm2 _ hF
  all_goals clear hm2
  all_goals simp -implicitDefEqProofs [j7,vn,hw,dW,uf,hv,hf,hF,zR,hne,ur,hm,IP,gQ,ho,lD,hA.o,hA.k,hA.m,hA.b,hB.o,hB.k,hB.m,hB.b,hp,dn]
 ·simp -implicitDefEqProofs [j7,vn,hw,dW,uf,hv,hf,hm,gQ,ho,lD,hA.o,hA.k,hA.m,hA.b,hB.o,hB.k,hB.m,hB.b,hp,dn]
def ko{α β:Type}(p:α->Bool)(d:α->β)(g:List α×List β)(v:α):List α×List β:=if p v=true then (g.1,g.2++[d v]) else (g.1++[v],g.2.tail++[d v])
def HF{α β:Type}(p:α->Bool)(d:α->β):∀(l:List α) (i:Nat) (g:List α×List β),(foldI (λ_ g v=>ko p d g v) i l g).1=g.1++l.filter (λv=> !p v)
 |[],i,g=>by simp[foldI]
 |v::l,i,g=>by rw[foldI,HF p d l];unfold ko;cases h:p v<;>simp[h]
structure DX {α β:Type} (e d:α->β) (n:Nat) (g:List α×List β):Prop where
 n:g.1.length+g.2.length=n
 m:1<=g.2.length
 r:∀x∈g.2,∃u,x=e u\/x=d u
def DX.go{α β:Type}{e d:α->β}{n:Nat}{g:List α×List β}(h:DX e d n g)(p:α->Bool)(v:α):DX e d (n+1) (ko p d g v):=by
 obtain⟨F,M⟩:=g;have hn:=h.n;have hm:=h.m;have hr:=h.r;simp at hn hm hr;unfold ko;split
 ·refine⟨by simp;omega,by simp,λx hx=>?_⟩;rcases fP.1 hx with hx|hx;·exact hr x hx
  ·exact⟨v,.inr (by simpa using hx)⟩
 ·refine⟨by simp;omega,by simp,λx hx=>?_⟩;rcases fP.1 hx with hx|hx;·exact hr x (Td hx)
  ·exact⟨v,.inr (by simpa using hx)⟩
def DX.row{α β:Type}{e d:α->β}{n:Nat}{g:List α×List β}(h:DX e d n g)(p:α->Bool)(v:α)(R T:List β)(hT:T=g.1.map e++g.2++e v::R):T.length=n+1+R.length/\T[n]?=some (e v)/\g.1.length<n/\(∃u,T[g.1.length]?=some (e u)\/T[g.1.length]?=some (d u))/\(if p v=true then T.set n (d v) else (T.set n (d v)).set g.1.length (e v))=(ko p d g v).1.map e++(ko p d g v).2++R/\(if p v=true then g.1.length else g.1.length+1)=(ko p d g v).1.length:=by
 obtain⟨F,M⟩:=g;have hn:=h.n;have hm:=h.m;have hr:=h.r;simp at hn hm hr hT⊢;subst hT;obtain⟨a,M',rfl⟩:∃a M',M=a::M':=by cases M with|nil=>simp at hm|cons a M=>exact⟨_,_,rfl⟩
 have e1:n=(F.map e).length+(a::M').length:=by simp;simp at hn;omega
 have e2:F.length=(F.map e).length:=by simp
 obtain⟨u,hu⟩:=hr a (by simp);refine⟨by simp at hn⊢;omega,?_,by simp at hn;omega,⟨u,?_⟩,?_,?_⟩;·rw[e1,<-fO,<-rA];simp
 ·rw[e2];rcases hu with rfl|rfl<;>simp
 ·have s1:∀w,(F.map e++(a::M'++e v::R)).set n w=F.map e++(a::M'++w::R):=by intro w;rw[e1];simp[List.set_append,rj,Nat.add_sub_cancel]
  rw[s1];unfold ko;cases hp:p v;·simp only[hp,iw,gW];rw[e2,LO _ _ (de _)];simp
  ·simp
 ·unfold ko;cases hp:p v<;>simp
def DX.fold{α β:Type}{e d:α->β}(p:α->Bool):∀(l:List α) (i:Nat) {n:Nat} {g:List α×List β},DX e d n g->DX e d (n+l.length) (foldI (λ_ g v=>ko p d g v) i l g)
 |[],i,n,g,h=>h
 |v::l,i,n,g,h=>by have:=DX.fold p l (i+1) (h.go p v);rw[foldI,cV,show n+(l.length+1)=n+1+l.length by omega];exact this
def TA(A:List X)(hA:Pl A)(B:List X)(hB:Pl B)(gf:Nat)(T:List (List X))(n f:Nat)(hn:T.length=n):aA (ev LI TT) (aB TT) j7 [(0,.ref 100000 []),(1,.fn gf [.ptr .af A,.ptr .af B]),(5,.int .i64 (f:Nat)),(6,.int .i64 ((n:Nat):Int)),(100000,.row .own 9 T)]=some (.exit 0,[(0,.ref 100000 []),(1,.fn gf [.ptr .af A,.ptr .af B]),(5,.int .i64 (f:Nat)),(6,.int .i64 ((n:Nat):Int)),(19,.bool false),(100000,.row .own 9 T)]):=by subst hn;simp -implicitDefEqProofs [j7,vn,hA.o,hA.k,hA.m,hA.b,hB.o,hB.k,hB.m,hB.b]
def TC(A:List X)(hA:Pl A)(B:List X)(hB:Pl B)(gf:Nat)(p:Kp->Bool)(ho:aB TT gf=true)(l:List Kp)(hf:∀x∈l,ev LI TT gf [.agg (av .af x),.ptr .af A,.ptr .af B]=some (.bool (p x),[.dead,.dead,.dead]))(hb:l.length<=1073741824)(i0:Nat)(hi0:i0<l.length)(g:List Kp×List (List X))(hg:DX (av .own) dn (i0+1) g):∃g':List Kp×List (List X),g'.1=g.1++(l.drop (i0+1)).filter (λv=> !p v)/\DX (av .own) dn l.length g'/\aX (aA (ev LI TT) (aB TT) j7) [(0,.ref 100000 []),(1,.fn gf [.ptr .af A,.ptr .af B]),(5,.int .i64 ((g.1.length:Nat):Int)),(6,.int .i64 ((i0+1:Nat):Int)),(100000,.row .own 9 (g.1.map (av .own)++g.2++(l.drop (i0+1)).map (av .own)))]=some (.exit 0,[(0,.ref 100000 []),(1,.fn gf [.ptr .af A,.ptr .af B]),(5,.int .i64 ((g'.1.length:Nat):Int)),(6,.int .i64 (l.length:Nat)),(19,.bool false),(100000,.row .own 9 (g'.1.map (av .own)++g'.2))]):=by
 have hd:(l.drop (i0+1)).length+(i0+1)=l.length:=by rw[vI];omega
 refine⟨foldI (λ_ g v=>ko p dn g v) 0 (l.drop (i0+1)) g,HF ..,?_,?_⟩;·have:=DX.fold p (l.drop (i0+1)) 0 hg;rwa [show i0+1+(l.drop (i0+1)).length=l.length by omega] at this
 ·refine mR (f:=aA (ev LI TT) (aB TT) j7) (l.drop (i0+1)) (λi (g:List Kp×List (List X))=>[(0,.ref 100000 []),(1,.fn gf [.ptr .af A,.ptr .af B]),(5,.int .i64 ((g.1.length:Nat):Int)),(6,.int .i64 ((i0+1+i:Nat):Int)),(100000,.row .own 9 (g.1.map (av .own)++g.2++(l.drop (i0+1+i)).map (av .own)))]) (λ_ g v=>ko p dn g v) (λg=>[(0,.ref 100000 []),(1,.fn gf [.ptr .af A,.ptr .af B]),(5,.int .i64 ((g.1.length:Nat):Int)),(6,.int .i64 (l.length:Nat)),(19,.bool false),(100000,.row .own 9 (g.1.map (av .own)++g.2))]) (λi g=>DX (av .own) dn (i0+1+i) g) g hg (λi b g hi hl hinv=>?_) (λi b g hi hinv=>?_) (λg hinv=>?_)
  ·obtain⟨hl',rfl⟩:=aQ.1 hi;have jy:i0+1+i<l.length:=by rw[vI] at hl';omega
   have fm:(l.drop (i0+1))[i]=l[i0+1+i]:=by rw[Me]
   have e:l.drop (i0+1+i)=l[i0+1+i]::l.drop (i0+1+(i+1)):=by rw[nq jy];rfl
   obtain⟨r1,r2,r3,⟨u,r4⟩,r5,r6⟩:=hinv.row p l[i0+1+i] ((l.drop (i0+1+(i+1))).map (av .own)) (g.1.map (av .own)++g.2++(l.drop (i0+1+i)).map (av .own)) (by rw[e,bq]);rw[fm];obtain⟨q1,q2⟩:=aQ.1 r2
   have hr4:∃h:g.1.length<(g.1.map (av .own)++g.2++(l.drop (i0+1+i)).map (av .own)).length,(g.1.map (av .own)++g.2++(l.drop (i0+1+i)).map (av .own))[g.1.length]=av .own u\/(g.1.map (av .own)++g.2++(l.drop (i0+1+i)).map (av .own))[g.1.length]=dn u:=by
    rcases r4 with r4|r4;·obtain⟨a,b⟩:=aQ.1 r4;exact⟨a,.inl b⟩
    ·obtain⟨a,b⟩:=aQ.1 r4;exact⟨a,.inr b⟩
   obtain⟨_,hr4⟩:=hr4;have hs:=TE A hA B hB gf p ho _ l[i0+1+i] (i0+1+i) g.1.length q1 q2 r3 u hr4 (by rw[r1,cW,vI];omega) (hf _ (cU jy));rw[hs,r5,r6,show i0+1+i+1=i0+1+(i+1) by omega]
  ·exact hinv.go p b
  ·rw[show i0+1+(l.drop (i0+1)).length=l.length by omega] at hinv⊢;rw[L3,jm,rB];exact TA A hA B hB gf _ _ _ (by rw[fO,cW];exact hinv.n)
def Ow(hi:Nat)(z:List X)(F M:List (List X))(n:Nat)(hn:n=F.length):(rW n hi z (F++M)).take n=F:=by
 subst hn;unfold rW;apply gX;intro j;rw[Mb];split;·rename_i h;rw[L9,pQ h,cm h];simp[Nat.not_le_of_lt h]
 ·rename_i h;rw[iL (by omega)]
def Ov(n hi:Nat)(z:List X)(T:List (List X)):(rW n hi z T).length=T.length:=by simp[rW]
def Vi(l:List Kp)(A B:List X)(hA:Pl A)(hB:Pl B)(gf:Nat)(p:Kp->Bool)(ho:aB TT gf=true)(hf:∀x∈l,ev LI TT gf [.agg (av .af x),.ptr .af A,.ptr .af B]=some (.bool (p x),[.dead,.dead,.dead]))(hb:l.length<=1073741824):ev LI TT 110 [.row .own 9 (l.map (av .own)),.fn gf [.ptr .af A,.ptr .af B]]=some (.row .own 9 ((l.filter (λv=> !p v)).map (av .own)),[.dead,.dead]):=by
 rw[aF (b:=tf) (rs:=[.t 4]) (n:=2) rfl rfl];have u1:=Vk l A B hA hB gf p ho hf (by omega);cases hg:cO p 0 l with
 |none=>
  rw[hg] at u1;simp at u1;have hl:l.filter (λv=> !p v)=l:=L6.2 λx hx=>by have:=HW.1 hg x hx;simpa using this
  rw[hl];simp -implicitDefEqProofs [tf,u1,hA.o,hA.k,hA.m,hA.b,hB.o,hB.k,hB.m,hB.b]
 |some x=>
  obtain⟨i,b⟩:=x;rw[hg] at u1;simp at u1;obtain⟨e,hpb,hq,hfl⟩:=OE hg;obtain⟨_,hi1,_⟩:=rX hg;obtain⟨hi,_⟩:=aQ.1 hi1;rw[yG] at hi;have hw:=cw i (by omega);obtain⟨g',r1,r2,u2⟩:=TC A hA B hB gf p ho l hf hb i hi (l.take i,[av .own b]) ⟨by simp;omega,by simp,λx hx=>⟨b,.inl (by simpa using hx)⟩⟩;rw[hfl];have hn:=r2.n
  have e2:(l.take i).map (av .own)++[av .own b]++(l.drop (i+1)).map (av .own)=l.map (av .own):=by
   conv=>rhs;rw[e]
   simp
  simp only[e2,CH,oh (LS hi)] at u2;dsimp only at r1;rw[<-r1];simp at u2;have ft:=λhi z=>Ow hi z (g'.1.map (av .own)) g'.2 g'.1.length (by simp);simp -implicitDefEqProofs [tf,u1,u2,hw,uQ,Ov,ft,hA.o,hA.k,hA.m,hA.b,hB.o,hB.k,hB.m,hB.b];all_goals omega
def TF(A:List X)(hA:Pl A)(gf:Nat)(p:Kp->Bool)(ho:aB TT gf=true)(T:List (List X))(v:Kp)(n f:Nat)(uf:n<T.length)(hv:T[n]=av .own v)(hfn:f<n)(u:Kp)(hF:T[f]=av .own u\/T[f]=dn u)(hb:T.length<=1073741824)(hf:ev LI TT gf [.agg (av .af v),.ptr .af A]=some (.bool (p v),[.dead,.dead])):aA (ev LI TT) (aB TT) j7 [(0,.ref 100000 []),(1,.fn gf [.ptr .af A]),(5,.int .i64 (f:Nat)),(6,.int .i64 ((n:Nat):Int)),(100000,.row .own 9 T)]=some (.normal,[(0,.ref 100000 []),(1,.fn gf [.ptr .af A]),(5,.int .i64 ((if p v=true then f else f+1:Nat):Int)),(6,.int .i64 ((n+1:Nat):Int)),(100000,.row .own 9 (if p v=true then T.set n (dn v) else (T.set n (dn v)).set f (av .own v)))]):=by
 have hw:=cw n (by omega);have dW:=cw f (by omega);have hm:=qN T n _ (aQ.2 ⟨uf,hv⟩);try simp at hf hv hm
 have zR:f<T.length:=by omega
 cases hp:p v
 ·rw[hp] at hf;have hne:¬n=f:=by omega
  have ur:¬f=n:=by omega
  have hm2:∀u',T[f]=u'->∀w g,(T.set n w).modify f g=(T.set n w).set f (g u'):=λu' h w g=>qN _ f _ (by simp[rC,hne,zR,h]) g;rcases hF with hF|hF;all_goals simp[dn] at hF
  all_goals have IP:=hm2 _ hF
  all_goals clear hm2
  all_goals simp -implicitDefEqProofs [j7,vn,hw,dW,uf,hv,hf,hF,zR,hne,ur,hm,IP,gQ,ho,lD,hA.o,hA.k,hA.m,hA.b,hp,dn]
 ·simp -implicitDefEqProofs [j7,vn,hw,dW,uf,hv,hf,hm,gQ,ho,lD,hA.o,hA.k,hA.m,hA.b,hp,dn]
def TB(A:List X)(hA:Pl A)(gf:Nat)(T:List (List X))(n f:Nat)(hn:T.length=n):aA (ev LI TT) (aB TT) j7 [(0,.ref 100000 []),(1,.fn gf [.ptr .af A]),(5,.int .i64 (f:Nat)),(6,.int .i64 ((n:Nat):Int)),(100000,.row .own 9 T)]=some (.exit 0,[(0,.ref 100000 []),(1,.fn gf [.ptr .af A]),(5,.int .i64 (f:Nat)),(6,.int .i64 ((n:Nat):Int)),(19,.bool false),(100000,.row .own 9 T)]):=by subst hn;simp -implicitDefEqProofs [j7,vn,hA.o,hA.k,hA.m,hA.b]
def TD(A:List X)(hA:Pl A)(gf:Nat)(p:Kp->Bool)(ho:aB TT gf=true)(l:List Kp)(hf:∀x∈l,ev LI TT gf [.agg (av .af x),.ptr .af A]=some (.bool (p x),[.dead,.dead]))(hb:l.length<=1073741824)(i0:Nat)(hi0:i0<l.length)(g:List Kp×List (List X))(hg:DX (av .own) dn (i0+1) g):∃g':List Kp×List (List X),g'.1=g.1++(l.drop (i0+1)).filter (λv=> !p v)/\DX (av .own) dn l.length g'/\aX (aA (ev LI TT) (aB TT) j7) [(0,.ref 100000 []),(1,.fn gf [.ptr .af A]),(5,.int .i64 ((g.1.length:Nat):Int)),(6,.int .i64 ((i0+1:Nat):Int)),(100000,.row .own 9 (g.1.map (av .own)++g.2++(l.drop (i0+1)).map (av .own)))]=some (.exit 0,[(0,.ref 100000 []),(1,.fn gf [.ptr .af A]),(5,.int .i64 ((g'.1.length:Nat):Int)),(6,.int .i64 (l.length:Nat)),(19,.bool false),(100000,.row .own 9 (g'.1.map (av .own)++g'.2))]):=by
 have hd:(l.drop (i0+1)).length+(i0+1)=l.length:=by rw[vI];omega
 refine⟨foldI (λ_ g v=>ko p dn g v) 0 (l.drop (i0+1)) g,HF ..,?_,?_⟩;·have:=DX.fold p (l.drop (i0+1)) 0 hg;rwa [show i0+1+(l.drop (i0+1)).length=l.length by omega] at this
 ·refine mR (f:=aA (ev LI TT) (aB TT) j7) (l.drop (i0+1)) (λi (g:List Kp×List (List X))=>[(0,.ref 100000 []),(1,.fn gf [.ptr .af A]),(5,.int .i64 ((g.1.length:Nat):Int)),(6,.int .i64 ((i0+1+i:Nat):Int)),(100000,.row .own 9 (g.1.map (av .own)++g.2++(l.drop (i0+1+i)).map (av .own)))]) (λ_ g v=>ko p dn g v) (λg=>[(0,.ref 100000 []),(1,.fn gf [.ptr .af A]),(5,.int .i64 ((g.1.length:Nat):Int)),(6,.int .i64 (l.length:Nat)),(19,.bool false),(100000,.row .own 9 (g.1.map (av .own)++g.2))]) (λi g=>DX (av .own) dn (i0+1+i) g) g hg (λi b g hi hl hinv=>?_) (λi b g hi hinv=>?_) (λg hinv=>?_)
  ·obtain⟨hl',rfl⟩:=aQ.1 hi;have jy:i0+1+i<l.length:=by rw[vI] at hl';omega
   have fm:(l.drop (i0+1))[i]=l[i0+1+i]:=by rw[Me]
   have e:l.drop (i0+1+i)=l[i0+1+i]::l.drop (i0+1+(i+1)):=by rw[nq jy];rfl
   obtain⟨r1,r2,r3,⟨u,r4⟩,r5,r6⟩:=hinv.row p l[i0+1+i] ((l.drop (i0+1+(i+1))).map (av .own)) (g.1.map (av .own)++g.2++(l.drop (i0+1+i)).map (av .own)) (by rw[e,bq]);rw[fm];obtain⟨q1,q2⟩:=aQ.1 r2
   have hr4:∃h:g.1.length<(g.1.map (av .own)++g.2++(l.drop (i0+1+i)).map (av .own)).length,(g.1.map (av .own)++g.2++(l.drop (i0+1+i)).map (av .own))[g.1.length]=av .own u\/(g.1.map (av .own)++g.2++(l.drop (i0+1+i)).map (av .own))[g.1.length]=dn u:=by
    rcases r4 with r4|r4;·obtain⟨a,b⟩:=aQ.1 r4;exact⟨a,.inl b⟩
    ·obtain⟨a,b⟩:=aQ.1 r4;exact⟨a,.inr b⟩
   obtain⟨_,hr4⟩:=hr4;have hs:=TF A hA gf p ho _ l[i0+1+i] (i0+1+i) g.1.length q1 q2 r3 u hr4 (by rw[r1,cW,vI];omega) (hf _ (cU jy));rw[hs,r5,r6,show i0+1+i+1=i0+1+(i+1) by omega]
  ·exact hinv.go p b
  ·rw[show i0+1+(l.drop (i0+1)).length=l.length by omega] at hinv⊢;rw[L3,jm,rB];exact TB A hA gf _ _ _ (by rw[fO,cW];exact hinv.n)
def Vh(l:List Kp)(A:List X)(hA:Pl A)(gf:Nat)(p:Kp->Bool)(ho:aB TT gf=true)(hf:∀x∈l,ev LI TT gf [.agg (av .af x),.ptr .af A]=some (.bool (p x),[.dead,.dead]))(hb:l.length<=1073741824):ev LI TT 110 [.row .own 9 (l.map (av .own)),.fn gf [.ptr .af A]]=some (.row .own 9 ((l.filter (λv=> !p v)).map (av .own)),[.dead,.dead]):=by
 rw[aF (b:=tf) (rs:=[.t 4]) (n:=2) rfl rfl];have u1:=Vj l A hA gf p ho hf (by omega);cases hg:cO p 0 l with
 |none=>
  rw[hg] at u1;simp at u1;have hl:l.filter (λv=> !p v)=l:=L6.2 λx hx=>by have:=HW.1 hg x hx;simpa using this
  rw[hl];simp -implicitDefEqProofs [tf,u1,hA.o,hA.k,hA.m,hA.b]
 |some x=>
  obtain⟨i,b⟩:=x;rw[hg] at u1;simp at u1;obtain⟨e,hpb,hq,hfl⟩:=OE hg;obtain⟨_,hi1,_⟩:=rX hg;obtain⟨hi,_⟩:=aQ.1 hi1;rw[yG] at hi;have hw:=cw i (by omega);obtain⟨g',r1,r2,u2⟩:=TD A hA gf p ho l hf hb i hi (l.take i,[av .own b]) ⟨by simp;omega,by simp,λx hx=>⟨b,.inl (by simpa using hx)⟩⟩;rw[hfl];have hn:=r2.n
  have e2:(l.take i).map (av .own)++[av .own b]++(l.drop (i+1)).map (av .own)=l.map (av .own):=by
   conv=>rhs;rw[e]
   simp
  simp only[e2,CH,oh (LS hi)] at u2;dsimp only at r1;rw[<-r1];simp at u2;have ft:=λhi z=>Ow hi z (g'.1.map (av .own)) g'.2 g'.1.length (by simp);simp -implicitDefEqProofs [tf,u1,u2,hw,uQ,Ov,ft,hA.o,hA.k,hA.m,hA.b];all_goals omega
end M
set_option maxHeartbeats 4000000
namespace M
open Go
variable [Lb]
def ac1(o:Ob)(hb:aZ o<=1073741824):(fy o).length<=9223372036854775807:=by
 by_cases hok:dJ o=true
 ·have hw:aZ o=o.path.length+wL wS o.names+wL wS o.values+aL o.resp:=rfl;have hrl:=RB o.resp;have hvl:=Sy o.values;have A:=FO hok;have a2:=A.n4;have a1:=A.len;have a3:=BL o.t;have a4:=qd o.values.length (by omega);have et:fy o=pg++32::(o.path++32::(dZ o.t++32::(bG o.values.length++10::(mX o.values++jd o.resp)))):=by unfold fy pz sV jd;rw[aq hok,aq A.resp];simp
  rw[et];simp[Ki];omega
 ·rw[(QK o).2 hok];simp
def tZ(s:Sh)(o:Ob):List Kp:=s.aG.filter λk=> !(decide (k.at_=s.next)||kR k.obj o)
def J4(s:Sh)(o:Ob):Bool:=dJ o && !jx s.aW o && !decide (s.seq=100000) && !decide (ew s.seq (fy o)=[])
def Qa(s:Sh)(o:Ob):Sh:=⟨lM s.bp s.next (ew s.seq (fy o)),tZ s o++[⟨o,s.next,s.seq⟩],s.aW,BK s.next,s.seq+1⟩
def iE(s:Sh)(o:Ob):Sh:=if J4 s o=true then Qa s o else s
def Mz(s:Sh):Pl [.ptr .af (lU .dead s)]:=⟨by simp[lU],by simp[lU],by simp[lU],by simp[lU]⟩
def Ut(o:Ob):Pl (cD .af o):=⟨by simp,by simp,by simp,by simp⟩
def M8(s:Sh)(o:Ob)(h:gR s=true)(hb:cR s<=1073741824)(ho:aZ o<=1073741824):ev LI TT 70 [.ptr .own (bH .own s),.agg (cD .af o)]=some (.bool (J4 s o),[.ptr .own (bH .own (iE s o)),.dead]):=by
 rw[aF (b:=sJ) (rs:=[.t 4]) (n:=2) rfl rfl];have A:=KW h;have hn:=A.n;have hq:=A.q;have jz:cR s=dA s.bp+wL dm s.aG+wL bK s.aW:=rfl;have l1:=bC (w:=dm) s.aG;have l2:=Mh (λk=> !(decide (k.at_=s.next)||kR k.obj o)) s.aG;have v1:=M4 o ho;have v2:=Ho s.seq (fy o) (ac1 o ho);have v3:=vX o ho;have v4:=C3 s.aW o (by omega) ho;try simp at v1 v2 v3 v4
 have hlz:((tZ s o).length+1)*136<=140737488355328:=by unfold tZ;omega
 have hw:=dN (n:=s.seq+1) (by omega) (by omega);unfold iE J4;cases g1:dJ o;·simp -implicitDefEqProofs [sJ,v1,v2,v3,v4,g1]
 cases g2:jx s.aW o;rotate_left;·simp -implicitDefEqProofs [sJ,v1,v2,v3,v4,g1,g2]
 by_cases g3:s.seq=100000;·rw[g3] at v2;simp -implicitDefEqProofs [sJ,v1,v2,v3,v4,g1,g2,g3]
 by_cases g4:ew s.seq (fy o)=[];·rw[g4] at v2;simp -implicitDefEqProofs [sJ,v1,v2,v3,v4,g1,g2,g3,g4]
 have v5:=Vi s.aG [.ptr .af (lU .dead s)] (cD .af o) (Mz s) (Ut o) 111 (λk=>decide (k.at_=s.next)||kR k.obj o) rfl (λk hk=>VV k .dead s o (by have:=yz hk;omega) ho) (by omega);have v6:=Na ⟨s.bp,tZ s o,s.aW,s.next,s.seq⟩ s.next (ew s.seq (fy o)) A.d
 have v7:=yX o ho;have v8:=Nh s.next hn
 unfold FR at v6;rw[show s.aG.filter (λk=> !(decide (k.at_=s.next)||kR k.obj o))=tZ s o from rfl] at v5;try simp[lU] at v5 v6 v7 v8
 unfold Qa;simp -implicitDefEqProofs [sJ,gP,fB,v1,v2,v3,v4,v5,v6,v7,v8,g1,g2,g3,g4,hw,hlz,cZ,JA,JB,JC,JD,JE];all_goals (repeat' split)<;>first|rfl|omega|(simp_all;done)|(simp_all;omega)|skip
end M
set_option maxHeartbeats 4000000
namespace M
open Go
variable [Lb]
end M
set_option maxHeartbeats 4000000
namespace M
open Go
variable [Lb]
def Ri(n:Int)(b:ah):(ew n b).length<=2040:=by
 unfold ew;split;·rename_i h;unfold KK;have l1:=qd n.toNat (by omega);have l2:=qd b.length (by omega);have l3:=wm 17 (tc (bG n.toNat++32::(bG b.length++10::b))) (Nat.lt_trans (K1 _) (by decide));simp;omega
 ·simp
def abT(s:Sh)(o:Ob):cR (iE s o)<=cR s+aZ o+2100:=by
 unfold iE;split
 ·have h1:=Q7 s.bp s.next (ew s.seq (fy o))
  have h2:=Ri s.seq (fy o);have h3:wL dm (tZ s o)<=wL dm s.aG:=SJ dm _ _;have h4:wL dm [⟨o,s.next,s.seq⟩]=aZ o+1:=by simp[wL,dm];omega
  show dA (lM s.bp s.next (ew s.seq (fy o)))+wL dm (tZ s o++[⟨o,s.next,s.seq⟩])+wL bK s.aW<=dA s.bp+wL dm s.aG+wL bK s.aW+aZ o+2100;rw[n9];omega
 ·omega
end M
set_option maxHeartbeats 4000000
namespace M
open Go
variable [Lb]
def UJ{α:Type}(p:α->Bool)(a b:List α):bT p (a++b)=(bT p a && bT p b):=by
 induction a with
 |nil=>simp[bT]
 |cons x a ih=>simp[bT,ih,Bool.and_assoc]
def ad4{d:bZ}{a:Int}(t:ah)(h:fA d=true)(ha:0<=a/\a<=19):fA (lM d a t)=true:=by
 obtain⟨h0,h1,h2⟩:=qQ h;have hf:=XJ h;unfold lM;split;·obtain⟨g0,g1,g2⟩:=qQ hf;unfold fA;simp[g1,bT,uU,ha]
 ·rename_i hp;unfold fA at h⊢;simp only[ax,bx,fO,cV,jl,UJ] at h⊢;simp[bT,uU,ha] at h⊢;exact⟨h.1,by omega⟩
def p6(s:Sh)(b:Bn):Bool:=eT b && !decide (5<=(s.aW.length:Int)) && !decide (s.seq=100000)
def CY(s:Sh)(b:Bn):bZ:=iR (lM s.bp s.aW.length (ew s.seq (fT b)))
def Dl(s:Sh)(b:Bn):List Kp:=s.aG.filter λk=> !jx (s.aW++[b]) k.obj
def ML(s:Sh)(b:Bn):Sh:=⟨CY s b,Dl s b,s.aW++[b],s.next,s.seq+1⟩
def mj(s:Sh)(b:Bn):Sh:=if p6 s b=true then ML s b else s
def MK(s:Sh)(b:Bn):cR (mj s b)<=cR s+bK b+2100:=by
 unfold mj;split
 ·have h1:=Q7 s.bp s.aW.length (ew s.seq (fT b));have h2:=Ri s.seq (fT b);have h5:=H6 (lM s.bp s.aW.length (ew s.seq (fT b)));have h3:wL dm (Dl s b)<=wL dm s.aG:=SJ dm _ _;have h4:wL bK [b]=bK b+1:=by simp[wL];omega
  show dA (iR (lM s.bp s.aW.length (ew s.seq (fT b))))+wL dm (Dl s b)+wL bK (s.aW++[b])<=dA s.bp+wL dm s.aG+wL bK s.aW+bK b+2100;rw[n9];omega
 ·omega
def U6(b:Bn)(hb:bK b<=1073741824):(fT b).length<=9223372036854775807:=by
 have h1:=BL b.t;have h2:bK b=b.a.length+b.b.length:=rfl;have h3:(lX b.kind).length<=10:=by unfold lX;split<;>(try split)<;>decide
 unfold fT;split;·split<;>simp<;>omega
 ·simp
def M7(s:Sh)(b:Bn)(h:gR s=true)(hb:cR s<=1000000000)(ho:bK b<=10000000):ev LI TT 72 [.ptr .own (bH .own s),.agg (dH b)]=some (.bool (p6 s b),[.ptr .own (bH .own (mj s b)),.dead]):=by
 rw[aF (b:=uD) (rs:=[.t 4]) (n:=2) rfl rfl];have A:=KW h;have hn:=A.n;have hq:=A.q;have Iw:=A.b;have jz:cR s=dA s.bp+wL dm s.aG+wL bK s.aW:=rfl;have l1:=bC (w:=dm) s.aG;have v1:=C0 b (by omega);try simp at v1
 have hlz:(s.aW.length+1)*48<=140737488355328:=by omega
 have hw:=dN (n:=s.seq+1) (by omega) (by omega);unfold mj p6;cases g1:eT b;·simp -implicitDefEqProofs [uD,v1,g1]
 by_cases g2:5<=(s.aW.length:Int);·simp -implicitDefEqProofs [uD,v1,g1,g2]
 by_cases g3:s.seq=100000;·simp -implicitDefEqProofs [uD,v1,g1,g2,g3]
 have v2:=MU b (by omega);have v3:=Ho s.seq (fT b) (U6 b (by omega));have v4:=Na s s.aW.length (ew s.seq (fT b)) A.d;have v5:=Hi (lM s.bp s.aW.length (ew s.seq (fT b))) (ad4 _ A.d (by omega));have hwb:wL bK (s.aW++[b])<=1073741824:=by rw[n9];have:wL bK [b]=bK b+1:=(by simp[wL];omega);have e2:bK b<=10000000:=ho;omega
 have v6:=Vh s.aG [.ptr .af (lU .dead ⟨CY s b,s.aG,s.aW++[b],s.next,s.seq+1⟩)] (Mz _) 116 (λk=>jx (s.aW++[b]) k.obj) rfl (λk hk=>VT k .dead ⟨CY s b,s.aG,s.aW++[b],s.next,s.seq+1⟩ (by have:=yz hk;omega) hwb) (by omega);unfold FR at v4;rw[show s.aG.filter (λk=> !jx (s.aW++[b]) k.obj)=Dl s b from rfl] at v6;rw[show iR (lM s.bp s.aW.length (ew s.seq (fT b)))=CY s b from rfl] at v5;try simp[lU] at v2 v3 v4 v5 v6
 unfold ML;simp -implicitDefEqProofs [uD,gP,fB,v1,v2,v3,v4,v5,v6,g1,g2,g3,hw,hlz,cZ,Jw,Jy,Jz];all_goals (repeat' split)<;>first|rfl|omega|(simp_all;done)|(simp_all;omega)|skip
end M
set_option maxHeartbeats 4000000
namespace M
open Go
variable [Lb]
end M
set_option maxHeartbeats 4000000
namespace M
open Go
variable [Lb]
def uO(q:Rq)(r:aU):Bool:=lN q && eZ r && decide (q.method=1) && decide (r.status=200) && !(iQ q.fields).ns && !(iQ r.fields).ns && !(iQ r.fields).pr && (iQ r.fields).ha && o9 (ey r.fields)
def sU(q:Rq)(r:aU)(t:Int):Ob:=⟨q.path,ey r.fields,valuesOf (ey r.fields) q.fields,r,t⟩
def mT(q:Rq)(r:aU)(t:Int):Bool:=uO q r && dJ (sU q r t)
def lG(q:Rq)(r:aU)(t:Int):Ob:=if mT q r t=true then sU q r t else ez
def mS(a b:List aH):List aH:=b.foldl (λg f=>jb g f.name f.value) a
def merge(a b:aU):aU:=if eZ ⟨a.status,mS a.fields b.fields,a.body⟩=true then ⟨a.status,mS a.fields b.fields,a.body⟩ else a
def je(c:Ca)(k:Int)(q:Rq)(r:aU)(kind:Int):Rp:=⟨k,q,r,kind,c.now,ez,0⟩
def j6(c:Ca)(k:Int)(q:Rq)(r:aU)(kind:Int):Ca:=⟨c.au,c.aD,c.now,c.seen,c.sent++[je c k q r kind]⟩
def qV(c:Ca)(k:Int)(q:Rq)(st:Int):Ca:=j6 c k q ⟨st,[],[]⟩ 4
def dL(c:Ca)(s:Sh):Ca:=⟨s,c.aD,c.now,c.seen,c.sent⟩
def wG(c:Ca)(l:List Fl):Ca:=⟨c.au,l,c.now,c.seen,c.sent⟩
def nX(p:ah)(t:Int):Bn:=⟨1,p,[],t⟩
def BX(c:Ca)(k:Int)(q:Rq):Ca:=qV (dL c (mj c.au (nX q.path c.now))) k q (if p6 c.au (nX q.path c.now)=true then 200 else 503)
def wN(c:Ca)(k:Int)(q:Rq)(o:Ob):Rp:=⟨k,q,answer q o c.now,1,c.now,o,c.au.aW.length⟩
def zP(c:Ca)(k:Int)(q:Rq)(o:Ob):Ca:=⟨c.au,c.aD,c.now,c.seen,c.sent++[wN c k q o]⟩
def CU(l:List Fl)(q:Rq):Option (Nat×Fl):=cO (λx=>kU x.q q) 0 l
def vk(c:Ca)(k:Int)(q:Rq)(f:Fl):Ca:=match CU c.aD q with
 |some (i,x)=>if (x.who.length:Int)<5 then wG c (c.aD.set i ⟨x.q,x.who++[k],x.old,x.gp⟩) else qV c k q 503
 |none=>if 5<=(c.aD.length:Int) then qV c k q 503 else wG c (c.aD++[f])
def GY(c:Ca)(k:Int)(q:Rq):Ca:=
 if iz c.au q c.now=2 then zP c k q (eE c.au q c.now)
 else vk c k q ⟨q,[k],eE c.au q c.now,decide (iz c.au q c.now=3)⟩
def iG(c:Ca)(a:Nat)(f:Fl)(r:aU)(kind:Int):Ca:=⟨c.au,c.aD.eraseIdx a,c.now,c.seen,c.sent++f.who.map λk=>je c k f.q r kind⟩
def cJ(c:Ca)(q:Rq)(r:aU):Ca:=⟨c.au,c.aD,c.now,c.seen++[⟨q,r,c.now⟩],c.sent⟩
def pL(f:Fl):Rq:=⟨1,f.old.path,f.q.fields,[]⟩
def kP(c:Ca)(f:Fl)(r:aU):Ob:=lG (pL f) (merge f.old.resp r) c.now
def KR(c:Ca)(f:Fl)(r:aU):Bool:=mT (pL f) (merge f.old.resp r) c.now && decide ((kP c f r).names=f.old.names)
def B2(c:Ca)(a:Nat)(f:Fl)(r:aU):Ca:=
 if KR c f r=true then iG (dL c (iE c.au (kP c f r))) a f (answer f.q (kP c f r) c.now) 3
 else iG c a f (merge f.old.resp r) 3
def K6(c:Ca)(a:Nat)(f:Fl)(r:aU):Ca:=
 if mT f.q r c.now=true then iG (dL c (iE c.au (lG f.q r c.now))) a f r 2 else iG c a f r 2
def mD(c:Ca)(a:Int):Option Fl:=if 0<=a then c.aD[a.toNat]? else none
def ya(c:Ca)(a:Int)(r:aU):Ca×Int:=
 if eZ r=true then (match mD c a with
  |none=>(c,2)
  |some f=>if 1495<=(c.seen.length:Int)\/1495<=(c.sent.length:Int) then (c,3)
   else if r.status=304/\f.gp=true then (B2 (cJ c f.q r) a.toNat f r,0) else (K6 (cJ c f.q r) a.toNat f r,0))
 else (c,1)
def wz(c:Ca)(a:Int):Ca×Int:=match mD c a with
 |none=>(c,2)
 |some f=>if 1495<=(c.sent.length:Int) then (c,3) else (iG c a.toNat f ⟨504,[],[]⟩ 4,0)
def vQ(c:Ca)(k:Int)(q:Rq):Ca×Int:=
 if lN q=true then (if 1495<=(c.sent.length:Int) then (c,3) else if q.method=4 then (BX c k q,0) else (GY c k q,0)) else (c,1)
def yo(c:Ca)(n:Int):Ca×Int:=if 0<=n/\n<=1000000 - c.now then (⟨c.au,c.aD,c.now+n,c.seen,c.sent⟩,0) else (c,1)
def vR(b:Bn)(t:Int):Bn:=⟨b.kind,b.a,b.b,t⟩
def vS(c:Ca)(b:Bn):Ca×Int:=(dL c (mj c.au (vR b c.now)),if p6 c.au (vR b c.now)=true then 0 else 3)
def HJ(c:Ca)(d:bZ):Ca:=dL c ⟨d,c.au.aG,c.au.aW,c.au.next,c.au.seq⟩
noncomputable def HC(c:Ca)(keep:List Bool):Ca:=⟨xR (nE c.au.bp keep),[],c.now,c.seen,c.sent⟩
noncomputable def kX(c:Ca)(d:De):Ca×Int:=
 if d.kind=1 then vQ c d.client d.q
 else if d.kind=2 then ya c d.a d.resp
 else if d.kind=3 then wz c d.a
 else if d.kind=4 then yo c d.a
 else if d.kind=5 then vS c d.ia
 else if d.kind=6 then (HJ c (iR c.au.bp),0)
 else (HC c d.keep,0)
end M
set_option maxHeartbeats 4000000
namespace M
open Go
variable [Lb]
def GK.sub{S S':Int}{l l':List Kp}(h:GK S l)(hs:List.Sublist l' l)(hS:S<=S'):GK S' l':=
 ⟨λx hx=>by have:=h.k x (hs.subset hx);exact⟨this.1,this.2.1,this.2.2.1,by omega⟩,h.p.sublist hs⟩
structure ou (c:Ca):Prop where
 s:gR c.au=true
 n:0<=c.now/\c.now<=1000000
 e:c.seen.length<=1500
 t:c.sent.length<=1500
 f:c.aD.length<=5
 q:∀x∈c.aD,lN x.q=true/\(1<=x.who.length/\x.who.length<=5)/\(x.gp=true->dJ x.old=true)
 p:c.aD.Pairwise λx y=>kU x.q y.q=false
def Np{c:Ca}:nB c=true↔ou c:=by
 have hf:bT (qh c.aD) c.aD.zipIdx=true↔((∀x∈c.aD,lN x.q=true/\(1<=x.who.length/\x.who.length<=5)/\(x.gp=true->dJ x.old=true))/\c.aD.Pairwise λx y=>kU x.q y.q=false):=by
  rw[jM]
  have key:(∀x∈c.aD.zipIdx,qh c.aD x=true)↔∀i (h:i<c.aD.length),(lN c.aD[i].q=true/\(1<=c.aD[i].who.length/\c.aD[i].who.length<=5)/\(c.aD[i].gp=true->dJ c.aD[i].old=true))/\∀y∈c.aD.take i,kU y.q c.aD[i].q=false:=by
   constructor
   ·intro H i h
    have hm:(c.aD[i],i)∈c.aD.zipIdx:=by
     have:(c.aD.zipIdx)[i]'(by simpa using h)=(c.aD[i],i):=by simp
     rw[<-this];exact cU _
    have:=H _ hm;simp only[qh,ax,bx,jM,ry,ru] at this;refine⟨⟨this.1.1.1,by omega,λh=>?_⟩,this.2⟩;rcases this.1.2 with g|g;·rw[h] at g;cases g
    ·exact g
   ·intro H x hx;obtain⟨i,hi,rfl⟩:=pT hx;have hl:i<c.aD.length:=by simpa using hi
    have:=H i hl;simp only[List.getElem_zipIdx,qh,ax,bx,jM,ry,ru,oo];refine⟨⟨⟨this.1.1,by omega⟩,?_⟩,this.2⟩;cases g:c.aD[i].gp;·exact .inl rfl
    ·exact .inr (this.1.2.2 g)
  rw[key];constructor
  ·intro H;refine⟨λx hx=>?_,?_⟩;·obtain⟨i,hi,rfl⟩:=pT hx;exact(H i hi).1
   ·rw[og];intro i j hi hj hij;exact(H j hj).2 _ (Tf.2 ⟨i,by omega,rfl⟩)
  ·rintro ⟨h1,h2⟩ i h;refine⟨h1 _ (cU h),λy hy=>?_⟩;obtain⟨j,hj,rfl⟩:=Tf.1 hy;rw[og] at h2;exact h2 j i (by omega) h (by omega)
 unfold nB zx;simp only[ax,bx,hf];constructor;·rintro ⟨⟨⟨⟨h1,h2⟩,h3⟩,h4⟩,h5,h6,h7⟩;exact⟨h1,h2,by omega,by omega,by omega,h6,h7⟩
 ·rintro ⟨h1,h2,h3,h4,h5,h6,h7⟩;exact⟨⟨⟨⟨h1,h2⟩,by omega⟩,by omega⟩,by omega,h6,h7⟩
end M
set_option maxHeartbeats 4000000
namespace M
open Go
variable [Lb]
def WX(s:Sh)(q:Rq)(now:Int):(iz s q now=1/\kV q=false/\eE s q now=ez)\/(iz s q now=4/\kV q=true/\fW s q=none/\eE s q now=ez)\/(∃o,fW s q=some o/\kV q=true/\eE s q now=o/\((iz s q now=2/\wI o.resp.fields o.t now=true/\(iQ q.fields).nc=false)\/iz s q now=3)):=by
 unfold iz eE zg;cases ha:kV q;·simp
 ·cases hf:fW s q with
  |none=>simp
  |some o=>refine .inr (.inr ⟨o,rfl,rfl,by simp,?_⟩);cases h1:wI o.resp.fields o.t now<;>cases h2:(iQ q.fields).nc<;>simp[h1,h2]
def ou.sent{c:Ca}(h:ou c){l:List Rp}(hl:c.sent.length+l.length<=1500):ou ⟨c.au,c.aD,c.now,c.seen,c.sent++l⟩:=
 ⟨h.s,h.n,h.e,by simp;omega,h.f,h.q,h.p⟩
def ou.au{c:Ca}(h:ou c){s:Sh}(hs:gR s=true):ou (dL c s):=⟨hs,h.n,h.e,h.t,h.f,h.q,h.p⟩
def ou.seen{c:Ca}(h:ou c){q:Rq}{r:aU}(hl:c.seen.length<1500):ou (cJ c q r):=⟨h.s,h.n,by simp[cJ];omega,h.t,h.f,h.q,h.p⟩
def wF{c:Ca}{a:Int}{f:Fl}(h:mD c a=some f):0<=a/\a.toNat<c.aD.length/\c.aD[a.toNat]?=some f/\f∈c.aD:=by
 unfold mD at h;split at h;·rename_i g;obtain⟨hl,e⟩:=aQ.1 h;exact⟨g,hl,h,by rw[<-e];exact cU _⟩
 ·cases h
end M
set_option maxHeartbeats 4000000
namespace M
open Go
variable [Lb]
def tN(q:Rq)(hb:q.fields.length<=1073741824):ev LI TT 31 [.agg (dy .af q)]=some (.agg (dy .own q),[.dead]):=by
 rw[aF (b:=E1) (rs:=[.c 2 4 true 29]) (n:=1) rfl rfl];have u1:=J3 q.fields hb;try simp at u1
 simp -implicitDefEqProofs [E1,u1];all_goals (repeat' split)<;>first|rfl|omega|(simp_all;done)|(simp_all;omega)|skip
def uX(q:Rq):q.fields.length<=bg q:=by have:=bC (w:=aN) q.fields;have e:bg q=q.path.length+wL aN q.fields+q.body.length:=rfl;omega
def ye(r:aU):r.fields.length<=aL r:=by have:=bC (w:=aN) r.fields;have e:aL r=wL aN r.fields+r.body.length:=rfl;omega
def V6(a:Rp)(hb:dM a<=1073741824):ev LI TT 34 [.agg (ic .af a)]=some (.agg (ic .own a),[.dead]):=by
 rw[aF (b:=E0) (rs:=[.c 2 18 true 62]) (n:=1) rfl rfl];have hw:dM a=bg a.q+aL a.resp+aZ a.obj:=rfl;have h1:=uX a.q;have h2:=ye a.resp;have u1:=tN a.q (by omega);try simp at u1
 have u2:=oz a.resp (by omega);try simp at u2
 have u3:=yX a.obj (by omega);try simp at u3
 simp -implicitDefEqProofs [E0,u1,u2,u3];all_goals (repeat' split)<;>first|rfl|omega|(simp_all;done)|(simp_all;omega)|skip
def aeL(l:List Int):dS (l.map eI)=true:=by induction l<;>simp_all[dS,scalar]
def ahZ{l:List Se}{x:Se}(h:x∈l):bg x.q+aL x.resp<=wL gU l:=iu (w:=gU) h
def fH(c:Ca):bh c=cR c.au+wL bM c.aD+wL gU c.seen+wL dM c.sent:=rfl
def Tw(c:Ca)(hc:bh c<=1073741824):aX (aA (ev LI TT) (aB TT) Bl) [(1,.ptr .own (aJ .af c)),(2,.ptr .own (aJ .own ⟨⟨⟨[],[]⟩,[],[],0,0⟩,[],0,[],[]⟩)),(3,.ptr .own (aJ .own ⟨c.au,[],c.now,[],[]⟩)),(16,.ai 1 [] 0 6),(17,.row .af 13 (c.aD.map (bE .af))),(18,.int .i64 c.aD.length),(19,.int .i64 0)]=
  some (.exit 0,[(1,.ptr .own (aJ .af c)),(2,.ptr .own (aJ .own ⟨⟨⟨[],[]⟩,[],[],0,0⟩,[],0,[],[]⟩)),(3,.ptr .own (aJ .own ⟨c.au,c.aD,c.now,[],[]⟩)),(16,.ai 1 [] 0 6),(17,.row .af 13 (c.aD.map (bE .af))),(18,.int .i64 c.aD.length),(19,.int .i64 c.aD.length),(20,.bool false)]):=by
 have:=qK (xt:=0) (f:=aA (ev LI TT) (aB TT) Bl) c.aD (λf=>[f]) (λi out=>[(1,.ptr .own (aJ .af c)),(2,.ptr .own (aJ .own ⟨⟨⟨[],[]⟩,[],[],0,0⟩,[],0,[],[]⟩)),(3,.ptr .own (aJ .own ⟨c.au,out,c.now,[],[]⟩)),(16,.ai 1 [] 0 6),(17,.row .af 13 (c.aD.map (bE .af))),(18,.int .i64 c.aD.length),(19,.int .i64 i)])
  (λout=>[(1,.ptr .own (aJ .af c)),(2,.ptr .own (aJ .own ⟨⟨⟨[],[]⟩,[],[],0,0⟩,[],0,[],[]⟩)),(3,.ptr .own (aJ .own ⟨c.au,out,c.now,[],[]⟩)),(16,.ai 1 [] 0 6),(17,.row .af 13 (c.aD.map (bE .af))),(18,.int .i64 c.aD.length),(19,.int .i64 c.aD.length),(20,.bool false)]) (λi b out hi hl hout=>?_) (λout hout=>?_)
 ·rw[show c.aD.flatMap (λf=>[f])=c.aD by simp] at this;exact this
 ·obtain⟨_,rfl⟩:=aQ.1 hi;have jV:=fH c;have hlf:=bC (w:=bM) c.aD;have hw:=cw i (by omega);have hlo:out.length=i:=by rw[hout];exact wH (λk=>k) _ _ (by omega)
  have hlz:(i+1)*216<=140737488355328:=by omega
  have hm:=iu (w:=bM) (cU hl);have uh:bM c.aD[i]=bg (c.aD[i]).q+wL wO (c.aD[i]).who+aZ (c.aD[i]).old:=rfl;have h1:=uX (c.aD[i]).q;have h2:=bC (w:=wO) (c.aD[i]).who;have u1:=tN (c.aD[i]).q (by omega);have u2:=abS (c.aD[i]).who (by omega);have u3:=yX (c.aD[i]).old (by omega);try simp at u1 u2 u3
  simp -implicitDefEqProofs [Bl,JK,hl,hw,u1,u2,u3,hlo,hlz,cZ]
 ·simp -implicitDefEqProofs [Bl,JK]
def Tx(c:Ca)(hc:bh c<=1073741824):aX (aA (ev LI TT) (aB TT) Bm) [(1,.ptr .own (aJ .af c)),(2,.ptr .own (aJ .own ⟨⟨⟨[],[]⟩,[],[],0,0⟩,[],0,[],[]⟩)),(3,.ptr .own (aJ .own ⟨c.au,c.aD,c.now,[],[]⟩)),(41,.ai 1 [] 0 8),(42,.row .af 8 (c.seen.map (oC .af))),(43,.int .i64 c.seen.length),(44,.int .i64 0)]=
  some (.exit 2,[(1,.ptr .own (aJ .af c)),(2,.ptr .own (aJ .own ⟨⟨⟨[],[]⟩,[],[],0,0⟩,[],0,[],[]⟩)),(3,.ptr .own (aJ .own ⟨c.au,c.aD,c.now,c.seen,[]⟩)),(41,.ai 1 [] 0 8),(42,.row .af 8 (c.seen.map (oC .af))),(43,.int .i64 c.seen.length),(44,.int .i64 c.seen.length),(45,.bool false)]):=by
 have:=qK (xt:=2) (f:=aA (ev LI TT) (aB TT) Bm) c.seen (λf=>[f]) (λi out=>[(1,.ptr .own (aJ .af c)),(2,.ptr .own (aJ .own ⟨⟨⟨[],[]⟩,[],[],0,0⟩,[],0,[],[]⟩)),(3,.ptr .own (aJ .own ⟨c.au,c.aD,c.now,out,[]⟩)),(41,.ai 1 [] 0 8),(42,.row .af 8 (c.seen.map (oC .af))),(43,.int .i64 c.seen.length),(44,.int .i64 i)])
  (λout=>[(1,.ptr .own (aJ .af c)),(2,.ptr .own (aJ .own ⟨⟨⟨[],[]⟩,[],[],0,0⟩,[],0,[],[]⟩)),(3,.ptr .own (aJ .own ⟨c.au,c.aD,c.now,out,[]⟩)),(41,.ai 1 [] 0 8),(42,.row .af 8 (c.seen.map (oC .af))),(43,.int .i64 c.seen.length),(44,.int .i64 c.seen.length),(45,.bool false)]) (λi b out hi hl hout=>?_) (λout hout=>?_)
 ·rw[show c.seen.flatMap (λf=>[f])=c.seen by simp] at this;exact this
 ·obtain⟨_,rfl⟩:=aQ.1 hi;have jV:=fH c;have hlf:=bC (w:=gU) c.seen;have hw:=cw i (by omega);have hlo:out.length=i:=by rw[hout];exact wH (λk=>k) _ _ (by omega)
  have hlz:(i+1)*120<=140737488355328:=by omega
  have hm:=ahZ (cU hl);have h1:=uX (c.seen[i]).q;have h2:=ye (c.seen[i]).resp;have u1:=tN (c.seen[i]).q (by omega);have u2:=oz (c.seen[i]).resp (by omega);try simp at u1 u2
  simp -implicitDefEqProofs [Bm,JL,hl,hw,u1,u2,hlo,hlz,cZ]
 ·simp -implicitDefEqProofs [Bm,JL]
def Tz(c:Ca)(hc:bh c<=1073741824):aX (aA (ev LI TT) (aB TT) Bo) [(1,.ptr .own (aJ .af c)),(2,.ptr .own (aJ .own ⟨⟨⟨[],[]⟩,[],[],0,0⟩,[],0,[],[]⟩)),(3,.ptr .own (aJ .own ⟨c.au,c.aD,c.now,c.seen,[]⟩)),(63,.ai 1 [] 0 9),(64,.row .af 18 (c.sent.map (ic .af))),(65,.int .i64 c.sent.length),(66,.int .i64 0)]=
  some (.exit 4,[(1,.ptr .own (aJ .af c)),(2,.ptr .own (aJ .own ⟨⟨⟨[],[]⟩,[],[],0,0⟩,[],0,[],[]⟩)),(3,.ptr .own (aJ .own ⟨c.au,c.aD,c.now,c.seen,c.sent⟩)),(63,.ai 1 [] 0 9),(64,.row .af 18 (c.sent.map (ic .af))),(65,.int .i64 c.sent.length),(66,.int .i64 c.sent.length),(67,.bool false)]):=by
 have:=qK (xt:=4) (f:=aA (ev LI TT) (aB TT) Bo) c.sent (λf=>[f]) (λi out=>[(1,.ptr .own (aJ .af c)),(2,.ptr .own (aJ .own ⟨⟨⟨[],[]⟩,[],[],0,0⟩,[],0,[],[]⟩)),(3,.ptr .own (aJ .own ⟨c.au,c.aD,c.now,c.seen,out⟩)),(63,.ai 1 [] 0 9),(64,.row .af 18 (c.sent.map (ic .af))),(65,.int .i64 c.sent.length),(66,.int .i64 i)])
  (λout=>[(1,.ptr .own (aJ .af c)),(2,.ptr .own (aJ .own ⟨⟨⟨[],[]⟩,[],[],0,0⟩,[],0,[],[]⟩)),(3,.ptr .own (aJ .own ⟨c.au,c.aD,c.now,c.seen,out⟩)),(63,.ai 1 [] 0 9),(64,.row .af 18 (c.sent.map (ic .af))),(65,.int .i64 c.sent.length),(66,.int .i64 c.sent.length),(67,.bool false)]) (λi b out hi hl hout=>?_) (λout hout=>?_)
 ·rw[show c.sent.flatMap (λf=>[f])=c.sent by simp] at this;exact this
 ·obtain⟨_,rfl⟩:=aQ.1 hi;have jV:=fH c;have hlf:=bC (w:=dM) c.sent;have hw:=cw i (by omega);have hlo:out.length=i:=by rw[hout];exact wH (λk=>k) _ _ (by omega)
  have hlz:(i+1)*264<=140737488355328:=by omega
  have hm:=iu (w:=dM) (cU hl);have u1:=V6 c.sent[i] (by omega);try simp at u1
  simp -implicitDefEqProofs [Bo,JM,hl,hw,u1,hlo,hlz,cZ]
 ·simp -implicitDefEqProofs [Bo,JM]
def Ni(c:Ca)(hc:bh c<=1073741824):ev LI TT 18 [.agg (aJ .af c)]=some (.agg (aJ .own c),[.dead]):=by
 rw[aF (b:=EW) (rs:=[.c 2 10 true 42]) (n:=1) rfl rfl];have jV:=fH c;have u1:=V7 c.au (by omega);try simp at u1
 have u2:=Tw c hc;try simp at u2
 have u3:=Tx c hc;try simp at u3
 have u4:=Tz c hc;try simp at u4
 simp -implicitDefEqProofs [EW,u1,u2,u3,u4,JN,JO];all_goals (repeat' split)<;>first|rfl|omega|(simp_all;done)|(simp_all;omega)|skip
def Hh(c:Ca)(k:Int)(q:Rq)(r:aU)(kd:Int)(hc:c.sent.length<=1073741824)(hq:bg q<=1073741824)(hr:aL r<=1073741824):ev LI TT 114 [.ptr .own (aJ .own c),.int .i64 k,.agg (dy .af q),.agg (cF .af r),.int .i64 kd]=some (.aj [],[.ptr .own (aJ .own (j6 c k q r kd)),.dead,.dead,.dead,.dead]):=by
 rw[aF (b:=Ei) (rs:=[]) (n:=5) rfl rfl];have h1:=uX q;have h2:=ye r;have hz:(c.sent.length+1)*264<=140737488355328:=by omega
 have u1:=tN q (by omega);try simp at u1
 have u2:=oz r (by omega);try simp at u2
 simp -implicitDefEqProofs [Ei,u1,u2,hz,cZ,j6,je,ez,Jg,Jh,Ji,Jj,Jk];all_goals (repeat' split)<;>first|rfl|omega|(simp_all;done)|(simp_all;omega)|skip
def Hg(c:Ca)(k:Int)(q:Rq)(st:Int)(hc:c.sent.length<=1073741824)(hq:bg q<=1073741824):ev LI TT 101 [.ptr .own (aJ .own c),.int .i64 k,.agg (dy .af q),.int .i64 st]=some (.aj [],[.ptr .own (aJ .own (qV c k q st)),.dead,.dead,.dead]):=by
 rw[aF (b:=Eh) (rs:=[]) (n:=4) rfl rfl];have h0:aL ⟨st,[],[]⟩<=1073741824:=by simp[aL,wL]
 have u1:=Hh c k q ⟨st,[],[]⟩ 4 hc hq h0;try simp at u1
 simp -implicitDefEqProofs [Eh,u1,qV];all_goals (repeat' split)<;>first|rfl|omega|(simp_all;done)|(simp_all;omega)|skip
end M
set_option maxHeartbeats 4000000
namespace M
open Go
variable [Fd]
def Vw(c:Ca)(d:De)(h:gR c.au=true)(hc:bh c<=100000000)(hq:bg d.q<=1100000):ev LI TT 61 [.ptr .own (aJ .own c),.agg (jP .af d)]=some (.aj [],[.ptr .own (aJ .own (BX c d.client d.q)),.dead]):=by
 rw[aF (b:=Am) (rs:=[]) (n:=2) rfl rfl];have jV:=fH c;have hl:=bC (w:=dM) c.sent;have hqw:bg d.q=d.q.path.length+wL aN d.q.fields+d.q.body.length:=rfl;have r9:bK (nX d.q.path c.now)=d.q.path.length+0:=rfl;obtain⟨b,hb,fk,fm,mI,hb4⟩:∃b,b=nX d.q.path c.now/\b.kind=1/\b.a=d.q.path/\b.b=[]/\b.t=c.now:=⟨_,rfl,rfl,rfl,rfl,rfl⟩;unfold BX;rw[<-hb] at r9⊢;have u1:=M7 c.au b h (by omega) (by omega);try simp at u1
 simp[fk,fm,mI,hb4] at u1;generalize mj c.au b=S at*;have v2:=Hg (dL c S) d.client d.q 200 (by simp only[dL];omega) (by omega);have v3:=Hg (dL c S) d.client d.q 503 (by simp only[dL];omega) (by omega);cases g:p6 c.au b<;>rw[g] at u1;·rw[az (by simp)];generalize qV (dL c S) d.client d.q 503=R2 at v3⊢;simp[dL] at v3;simp -implicitDefEqProofs [Am,u1,v3]
 rw[aq rfl];generalize qV (dL c S) d.client d.q 200=R1 at v2⊢;simp[dL] at v2;simp -implicitDefEqProofs [Am,u1,v2];all_goals (repeat' split)<;>first|rfl|omega|(simp_all;done)|(simp_all;omega)|skip
def Vu(c:Ca)(d:De)(o:Ob)(hc:bh c<=100000000)(hq:bg d.q<=1100000)(ho:aZ o<=100000000)(h3:bI o.t)(h4:bI c.now):ev LI TT 64 [.ptr .own (aJ .own c),.agg (jP .af d),.agg (cD .own o)]=some (.aj [],[.ptr .own (aJ .own (zP c d.client d.q o)),.dead,.dead]):=by
 rw[aF (b:=Ef) (rs:=[]) (n:=3) rfl rfl];have jV:=fH c;have hl:=bC (w:=dM) c.sent;have h1:=uX d.q;have hz:(c.sent.length+1)*264<=140737488355328:=by omega
 have u1:=tN d.q (by omega);try simp at u1
 have u2:=MT d.q o c.now (by omega) ho h3 h4;try simp at u2
 unfold zP wN;generalize answer d.q o c.now=A at u2⊢;simp -implicitDefEqProofs [Ef,u1,u2,hz,cZ,Jb,Jc,Jd,Je,Jf];all_goals (repeat' split)<;>first|rfl|omega|(simp_all;done)|(simp_all;omega)|skip
def VA(x:Fl)(d:De)(hx:bg x.q<=1073741824)(hq:bg d.q<=1073741824):ev LI TT 104 [.agg (bE .af x),.ptr .af (jP .af d)]=some (.bool (kU x.q d.q),[.dead,.dead]):=by
 rw[aF (b:=Ej) (rs:=[.t 3]) (n:=2) rfl rfl];have u1:=MS x.q d.q (by omega) (by omega);try simp at u1
 simp -implicitDefEqProofs [Ej,u1];all_goals (repeat' split)<;>first|rfl|omega|(simp_all;done)|(simp_all;omega)|skip
def TL(l:List Fl)(A:List X)(hA:Pl A)(gf:Nat)(p:Fl->Bool)(ho:aB TT gf=true)(hf:∀x∈l,ev LI TT gf [.agg (bE .af x),.ptr .af A]=some (.bool (p x),[.dead,.dead]))(hb:l.length<=9223372036854775807):aX (aA (ev LI TT) (aB TT) Cq) [(0,.row .af 13 (l.map (bE .af))),(1,.fn gf [.ptr .af A]),(7,.int .i64 l.length),(8,.int .i64 0)]=(cO p 0 (l)).elim (some (.exit 0,[(0,.row .af 13 (l.map (bE .af))),(1,.fn gf [.ptr .af A]),(7,.int .i64 l.length),(8,.int .i64 (l).length),(9,.bool false)])) λx=>some (.ret,(λ(i:Nat) b=>[(4,.int .i64 i)]) x.1 x.2):=by
 refine uN (f:=aA (ev LI TT) (aB TT) Cq) (l) (λi=>[(0,.row .af 13 (l.map (bE .af))),(1,.fn gf [.ptr .af A]),(7,.int .i64 l.length),(8,.int .i64 i)]) p (λ(i:Nat) b=>[(4,.int .i64 i)]) _ (λi b hi hl=>?_) ?_
 ·have hw:=cw i (by first|omega|(simp at hl;omega));obtain⟨_,rfl⟩:=aQ.1 hi;have u1:=hf l[i] (cU hl);try simp at u1
  simp -implicitDefEqProofs [Cq,Lt,hl,hw,u1,ho,lD,hA.o,hA.k,hA.m,hA.b];all_goals (repeat' split)<;>first|rfl|omega|(simp_all;done)|(simp_all;omega)|skip
 ·simp -implicitDefEqProofs [Cq,Lt,hA.o,hA.k,hA.m,hA.b]
def Vl(l:List Fl)(A:List X)(hA:Pl A)(gf:Nat)(p:Fl->Bool)(ho:aB TT gf=true)(hf:∀x∈l,ev LI TT gf [.agg (bE .af x),.ptr .af A]=some (.bool (p x),[.dead,.dead]))(hb:l.length<=9223372036854775807):ev LI TT 103 [.row .af 13 (l.map (bE .af)),.fn gf [.ptr .af A]]=some (.int .i64 ((cO p 0 l).elim (-1) λx=>(x.1:Int)),[.dead,.dead]):=by
 rw[aF (b:=Cr) (rs:=[.t 4]) (n:=2) rfl rfl];have u1:=TL l A hA gf p ho hf hb;try simp at u1
 cases g:cO p 0 l with
 |none=>rw[g] at u1;simp at u1;simp -implicitDefEqProofs [Cr,u1,hA.o,hA.k,hA.m,hA.b]
 |some x=>
 rw[g] at u1;simp at u1;simp -implicitDefEqProofs [Cr,u1,hA.o,hA.k,hA.m,hA.b];all_goals (repeat' split)<;>first|rfl|omega|(simp_all;done)|(simp_all;omega)|skip
end M
set_option maxHeartbeats 8000000
namespace M
open Go
variable [Fd]
def Us(d:De):Pl (jP .af d):=⟨by simp,by simp,by simp,by simp⟩
def Kr(l:List Fl)(i:Nat)(x:Fl)(h:l[i]?=some x)(g:List X->List X):(l.map (bE .own)).modify i g=(l.map (bE .own)).set i (g (bE .own x)):=qN _ i _ (by rw[cS,h];rfl) g
def MX(c:Ca)(d:De)(f:Fl)(hc:bh c<=100000000)(hq:bg d.q<=1073741824):ev LI TT 65 [.ptr .own (aJ .own c),.agg (jP .af d),.agg (bE .own f)]=some (.aj [],[.ptr .own (aJ .own (vk c d.client d.q f)),.dead,.dead]):=by
 rw[aF (b:=w8) (rs:=[]) (n:=3) rfl rfl];have jV:=fH c;have hl:=bC (w:=dM) c.sent;have jy:=bC (w:=bM) c.aD;have hfl:∀x∈c.aD,bg x.q<=1073741824/\x.who.length<=1073741824:=λx hx=>by have h1:=iu (w:=bM) hx;have h2:bM x=bg x.q+wL wO x.who+aZ x.old:=rfl;have h3:=bC (w:=wO) x.who;exact⟨by omega,by omega⟩
 have hz0:(c.aD.length+1)*216<=140737488355328:=by omega
 have u1:=Vl c.aD (jP .af d) (Us d) 104 (λx=>kU x.q d.q) rfl (λx hx=>VA x d (hfl x hx).1 hq) (by omega);try simp at u1
 have u2:=Hg c d.client d.q 503 (by omega) hq;try simp at u2
 unfold vk;generalize qV c d.client d.q 503=R at u2⊢;cases g:CU c.aD d.q with
 |none=>
  unfold CU at g;rw[g] at u1;simp at u1;by_cases g2:5<=(c.aD.length:Int);·simp -implicitDefEqProofs [w8,w9,xb,AB,AD,AE,AF,xe,AG,AH,AJ,As,xd,Au,Av,Aw,Ay,Az,AA,gP,fB,eY,u1,u2,g2]
  simp -implicitDefEqProofs [w8,w9,xb,AB,AD,AE,AF,xe,AG,AH,AJ,As,xd,Au,Av,Aw,Ay,Az,AA,gP,fB,eY,u1,u2,g2,hz0,cZ,wG]
 |some x=>
 obtain⟨i,x⟩:=x;unfold CU at g;rw[g] at u1;obtain⟨_,hi1,_⟩:=rX g;rw[yG] at hi1;obtain⟨nM,Pz⟩:=aQ.1 hi1;have hxl:=(hfl x (by rw[<-Pz];exact cU nM)).2;have hz:(x.who.length+1)*8<=140737488355328:=by omega
 have sn:=Kr c.aD i x hi1;clear g hfl;have hcs:X.clean.bn ((c.aD.map (bE .own)).set i (bE .own ⟨x.q,x.who++[d.client],x.old,x.gp⟩))=true:=by have:=ND (c.aD.set i ⟨x.q,x.who++[d.client],x.old,x.gp⟩);rwa [Tv] at this
 simp at hcs;simp at u1;by_cases g2:(x.who.length:Int)<5;all_goals
 simp -implicitDefEqProofs [w8,u1,u2,gP,fB,eY,hi1,nM,Pz,g2,hz,cZ,wG,sn,aeL,gQ,hcs,w9,xb,AB,AD,AE,AF,xe,AG,AH,AJ,As,xd,Au,Av,Aw,Ay,Az,AA];all_goals (repeat' split)<;>first|rfl|omega|(simp_all;done)|(simp_all;omega)|skip
end M
set_option maxHeartbeats 8000000
namespace M
open Go
variable [Fd]
def Xz{s:Sh}{q:Rq}(h:gR s=true):fW s q=zq s q:=by unfold fW;rw[aq h]
def Vq(c:Ca)(d:De)(h:gR c.au=true)(hn:bI c.now)(hc:bh c<=100000000)(hq:bg d.q<=1100000):ev LI TT 35 [.ptr .own (aJ .own c),.agg (jP .af d)]=some (.int .i64 (vQ c d.client d.q).2,[.ptr .own (aJ .own (vQ c d.client d.q).1),.dead]):=by
 rw[aF (b:=qw) (rs:=[.t 4]) (n:=2) rfl rfl];have jV:=fH c;have h1:=uX d.q;obtain⟨IY,how⟩:=OB (s:=c.au) (q:=d.q);have hdc:=WX c.au d.q c.now;have Pq:iz c.au d.q c.now=zg d.q ((fW c.au d.q).getD ez) (fW c.au d.q).isSome c.now:=rfl;have Pv:=Xz (q:=d.q) h;have u1:=C4 d.q (by omega);try simp at u1
 have u2:=Vw c d h hc hq;try simp at u2
 have u3:=VU c.au d.q (by omega) (by omega);try simp at u3
 have u4:=tN d.q (by omega);try simp at u4
 have u5:=V8 d.q ((fW c.au d.q).getD ez) (fW c.au d.q).isSome c.now (by omega) (by omega) IY hn;try simp at u5
 rw[<-Pv] at u3;rw[<-Pq] at u5;have v1:=Vu c d ((fW c.au d.q).getD ez) hc hq (by omega) IY hn;have v2:=MX c d ⟨d.q,[d.client],(fW c.au d.q).getD ez,true⟩ hc (by omega);have v3:=MX c d ⟨d.q,[d.client],ez,false⟩ hc (by omega)
 have e2:iz c.au d.q c.now=2\/iz c.au d.q c.now=3->eE c.au d.q c.now=(fW c.au d.q).getD ez:=λhh=>by
  rcases hdc with ⟨a,_⟩|⟨a,_⟩|⟨o,ho,_,e,_⟩;·omega
  ·omega
  ·rw[e,ho];rfl
 have e3:¬iz c.au d.q c.now=2->¬iz c.au d.q c.now=3->eE c.au d.q c.now=ez:=λh2 h3=>by
  rcases hdc with ⟨_,_,e⟩|⟨_,_,_,e⟩|⟨o,ho,_,_,e⟩;·exact e
  ·exact e
  ·omega
 clear hdc Pq IY how Pv;generalize (fW c.au d.q).isSome=fd at*;generalize (fW c.au d.q).getD ez=O at*;unfold vQ GY;generalize BX c d.client d.q=R at u2⊢;cases g1:lN d.q<;>rw[g1] at u1;·simp -implicitDefEqProofs [qw,sB,sC,sD,sE,qx,sF,sG,sH,u1]
 by_cases g2:1495<=(c.sent.length:Int);·simp -implicitDefEqProofs [qw,sB,sC,sD,sE,qx,sF,sG,sH,u1,g2]
 by_cases g3:d.q.method=4;·rw[g3] at u1 u2;simp -implicitDefEqProofs [qw,sB,sC,sD,sE,qx,sF,sG,sH,u1,u2,g2,g3]
 by_cases g4:iz c.au d.q c.now=2;·rw[e2 (.inl g4)];rw[aq rfl,az g2,az g3,aq g4];generalize zP c d.client d.q O=R2 at v1⊢;rw[g4] at u5;simp at v1;simp -implicitDefEqProofs [qw,sB,sC,sD,sE,qx,sF,sG,sH,u1,u3,u4,u5,v1,g2,g3]
 by_cases g5:iz c.au d.q c.now=3;·rw[e2 (.inr g5)];rw[aq rfl,az g2,az g3,az g4,show decide (iz c.au d.q c.now=3)=true by simp[g5]];generalize vk c d.client d.q ⟨d.q,[d.client],O,true⟩=R2 at v2⊢;rw[g5] at u5;simp at v2;simp -implicitDefEqProofs [qw,sB,sC,sD,sE,qx,sF,sG,sH,u1,u3,u4,u5,v2,g2,g3]
 rw[e3 g4 g5];rw[aq rfl,az g2,az g3,az g4,show decide (iz c.au d.q c.now=3)=false by simp[g5]];generalize vk c d.client d.q ⟨d.q,[d.client],ez,false⟩=R2 at v3⊢;simp[ez] at v3;simp -implicitDefEqProofs [qw,u1,u2,u3,u4,u5,v3,g2,g3,g4,g5,sB,sC,sD,sE,qx,sF,sG,sH];all_goals (repeat' split)<;>first|rfl|omega|(simp_all;done)|(simp_all;omega)|skip
end M
set_option maxHeartbeats 8000000
namespace M
open Go
variable [Fd]
def Gt:Ca:=⟨⟨⟨[],[]⟩,[],[],0,0⟩,[],0,[],[]⟩
end M
set_option maxHeartbeats 8000000
namespace M
open Go
variable [Fd]
def WY{s:Sh}{q:Rq}{now:Int}:bI (eE s q now).t/\aZ (eE s q now)<=cR s:=by
 unfold eE;split;·exact OB
 ·exact⟨by unfold bI;simp[ez],by simp[ez,aZ,aL,wL]⟩
end M
set_option maxHeartbeats 8000000
namespace M
open Go
variable [Lb]
def SC{fs:List aH}(hb:wL aN fs<=1000000000):(ey fs).length<=1073741824/\∀w∈ey fs,w.length<=1073741824:=by have h0:=Lm fs;refine⟨by omega,λw hw=>?_⟩;unfold ey at hw;obtain⟨x,hx,rfl⟩:=aT.1 hw;have h1:=Gi _ x hx;have h2:=ue fs kM;simp only[dh,cW];omega
def VJ(q:Rq)(r:aU)(hq:bg q<=1000000000)(hr:aL r<=1000000000):ev LI TT 106 [.agg (dy .af q),.agg (cF .af r)]=some (.bool (uO q r),[.dead,.dead]):=by
 rw[aF (b:=mN) (rs:=[.t 4]) (n:=2) rfl rfl];have dW:aL r=wL aN r.fields+r.body.length:=rfl;have D9:bg q=q.path.length+wL aN q.fields+q.body.length:=rfl;have V:=SC (fs:=r.fields) (by omega);unfold uO;have u1:=C4 q (by omega);try simp at u1
 have u2:=tM r (by omega);try simp at u2
 have u3:=vW r.fields (by omega);try simp at u3
 have u4:=vW q.fields (by omega);try simp at u4
 have u5:=C5 r.fields (by omega);try simp at u5
 have u6:=Nk (ey r.fields) V.1 V.2;try simp at u6
 rw[show (bT gD (ey r.fields) && decide (((ey r.fields).length:Int)<=4))=o9 (ey r.fields) from rfl] at u6;generalize o9 (ey r.fields)=b6 at u6⊢;generalize ey r.fields=W at u5 u6;generalize iQ r.fields=c1 at u3⊢;generalize iQ q.fields=c2 at u4⊢;generalize eZ r=b2 at u2⊢;generalize lN q=b1 at u1⊢;obtain⟨n1,n2,n3,n4,n5,n6⟩:=c1;obtain⟨m1,m2,m3,m4,m5,m6⟩:=c2;simp only at u3 u4;cases b1;·simp -implicitDefEqProofs [mN,u1]
 cases b2;·simp -implicitDefEqProofs [mN,u1,u2]
 by_cases g1:q.method=1;rotate_left;·simp -implicitDefEqProofs [mN,u1,u2,g1]
 rw[g1] at u1;by_cases g2:r.status=200;rotate_left;·simp -implicitDefEqProofs [mN,u1,u2,g1,g2]
 rw[g2] at u2;cases m1;rotate_left;·simp -implicitDefEqProofs [mN,u1,u2,u3,u4,g1,g2]
 cases n1;rotate_left;·simp -implicitDefEqProofs [mN,u1,u2,u3,u4,g1,g2]
 cases n3;rotate_left;·simp -implicitDefEqProofs [mN,u1,u2,u3,u4,g1,g2]
 cases n5;·simp -implicitDefEqProofs [mN,u1,u2,u3,u4,g1,g2]
 simp -implicitDefEqProofs [mN,u1,u2,u3,u4,u5,u6,g1,g2];all_goals (repeat' split)<;>first|rfl|omega|(simp_all;done)|(simp_all;omega)|skip
def acB{l:List ah}(h:o9 l=true):l.length<=4:=by unfold o9 at h;simp only[ax,bx] at h;omega
def ahQ(fs:List aH)(n:ah):(vj fs n).length<=wL aN fs+1:=by
 have h:=ue fs n;unfold vj;cases hg:dP fs n with
 |none=>simp
 |some x=>rw[hg] at h;simp at h⊢;omega
def acS{q:Rq}{r:aU}(t:Int)(hm:uO q r=true)(hq:bg q<=100000000)(hr:aL r<=100000000):aZ (sU q r t)<=1073741824:=by
 unfold uO at hm;simp only[ax] at hm;have hr2:=FW hm.1.1.1.1.1.1.1.2;have hn:=acB hm.2;have dW:aL r=wL aN r.fields+r.body.length:=rfl;have D9:bg q=q.path.length+wL aN q.fields+q.body.length:=rfl;have h1:=SB r.fields;have h2:wL aN r.fields+1<=801:=by omega
 have h3:=Nat.mul_le_mul h2 h2;have h4:wL wS (valuesOf (ey r.fields) q.fields)<=4*(wL aN q.fields+1+1):=q8 (λw hw=>by unfold valuesOf at hw;obtain⟨n,_,rfl⟩:=aT.1 hw;exact ahQ q.fields n) (by rw[Sz];exact hn)
 have e:aZ (sU q r t)=q.path.length+wL wS (ey r.fields)+wL wS (valuesOf (ey r.fields) q.fields)+aL r:=rfl;omega
def M3(q:Rq)(r:aU)(t:Int)(hq:bg q<=100000000)(hr:aL r<=100000000):ev LI TT 69 [.agg (dy .af q),.agg (cF .af r),.int .i64 t]=some (.aj [.agg (cD .own (lG q r t)),.bool (mT q r t)],[.dead,.dead,.dead]):=by
 rw[aF (b:=xh) (rs:=[.c 6 7 true 60,.t 7]) (n:=3) rfl rfl];have dW:aL r=wL aN r.fields+r.body.length:=rfl;have D9:bg q=q.path.length+wL aN q.fields+q.body.length:=rfl;have V:=SC (fs:=r.fields) (by omega);have jy:=bC (w:=aN) q.fields;have hl3:=bC (w:=aN) r.fields;have u1:=VJ q r (by omega) (by omega);try simp at u1
 have u2:=C5 r.fields (by omega);try simp at u2
 have u3:=oz r (by omega);try simp at u3
 have u4:=Nf (ey r.fields) q.fields V.1 (by omega);try simp at u4
 unfold lG mT;cases g1:uO q r<;>rw[g1] at u1;·simp -implicitDefEqProofs [xh,AW,AX,AY,u1,ez]
 have u5:=vX (sU q r t) (acS t g1 hq hr);cases g2:dJ (sU q r t)<;>rw[g2] at u5<;>simp[sU] at u5;·simp -implicitDefEqProofs [xh,AW,AX,AY,u1,u2,u3,u4,u5,ez]
 simp -implicitDefEqProofs [xh,u1,u2,u3,u4,sU,AW,AX,AY];all_goals (repeat' split)<;>first|rfl|omega|(simp_all;done)|(simp_all;omega)|skip
def Kq:∀(b a:List aH),wL aN (mS a b)<=wL aN a+wL aN b
 |[],a=>by unfold mS;simp
 |f::b,a=>by
  have h:=Kq b (jb a f.name f.value);have h2:=KG a f.name f.value;have h3:wL aN (f::b)=aN f+wL aN b+1:=by simp[wL];omega
  have h4:aN f=f.name.length+f.value.length:=rfl;show wL aN (mS (jb a f.name f.value) b)<=_;omega
def TW(a b:aU)(ha:a.fields.length<=500000000)(hb:b.fields.length<=500000000)(fs:List aH)(hinv:fs.length<=a.fields.length+0):aX (aA (ev LI TT) (aB TT) AR) [(2,.ptr .own (cF .af a)),(3,.ptr .own (cF .af b)),(4,.ptr .own (cF .own ⟨0,[],[]⟩)),(5,.ptr .own [.int .i64 a.status,.row .own 2 ((fs).map aR),.str ⟨a.body.toArray⟩]),(10,.ai 3 [] 0 1),(11,.row .af 2 (b.fields.map aR)),(12,.int .i64 b.fields.length),(13,.int .i64 0)]=some (.exit 0,[(2,.ptr .own (cF .af a)),(3,.ptr .own (cF .af b)),(4,.ptr .own (cF .own ⟨0,[],[]⟩)),(5,.ptr .own [.int .i64 a.status,.row .own 2 (((foldI ((λ_ g (f:aH)=>jb g f.name f.value)) 0 (b.fields) fs)).map aR),.str ⟨a.body.toArray⟩]),(10,.ai 3 [] 0 1),(11,.row .af 2 (b.fields.map aR)),(12,.int .i64 b.fields.length),(13,.int .i64 (b.fields).length),(14,.bool false)]):=by
 refine mR (f:=aA (ev LI TT) (aB TT) AR) (b.fields) (λi (fs:List aH)=>[(2,.ptr .own (cF .af a)),(3,.ptr .own (cF .af b)),(4,.ptr .own (cF .own ⟨0,[],[]⟩)),(5,.ptr .own [.int .i64 a.status,.row .own 2 ((fs).map aR),.str ⟨a.body.toArray⟩]),(10,.ai 3 [] 0 1),(11,.row .af 2 (b.fields.map aR)),(12,.int .i64 b.fields.length),(13,.int .i64 i)]) ((λ_ g (f:aH)=>jb g f.name f.value)) (λfs=>[(2,.ptr .own (cF .af a)),(3,.ptr .own (cF .af b)),(4,.ptr .own (cF .own ⟨0,[],[]⟩)),(5,.ptr .own [.int .i64 a.status,.row .own 2 ((fs).map aR),.str ⟨a.body.toArray⟩]),(10,.ai 3 [] 0 1),(11,.row .af 2 (b.fields.map aR)),(12,.int .i64 b.fields.length),(13,.int .i64 (b.fields).length),(14,.bool false)]) (λi (fs:List aH)=>fs.length<=a.fields.length+i) fs hinv (λi b fs hi hl hinv=>?_) (λi b fs hi hinv=>?_) (λfs hinv=>?_)
 ·have hw:=cw i (by first|omega|(simp at hl;omega));obtain⟨_,rfl⟩:=aQ.1 hi;have u1:=Hl fs (b.fields[i]).name (b.fields[i]).value (by omega);try simp at u1
  simp -implicitDefEqProofs [AR,Jq,hl,hw,u1];all_goals (repeat' split)<;>first|rfl|omega|(simp_all;done)|(simp_all;omega)|skip
 ·have:=ad6 fs b.name b.value;omega
 ·simp -implicitDefEqProofs [AR,Jq]
def VK(a:aU)(b:aU)(ha:aL a<=100000000)(hb:aL b<=100000000):ev LI TT 105 [.agg (cF .af a),.agg (cF .af b)]=some (.agg (cF .own (merge a b)),[.dead,.dead]):=by
 rw[aF (b:=Ez) (rs:=[.c 4 3 true 47]) (n:=2) rfl rfl];have h1:=ye a;have h2:=ye b;have hm:=Kq b.fields a.fields;have hw1:aL a=wL aN a.fields+a.body.length:=rfl;have dW:aL b=wL aN b.fields+b.body.length:=rfl;have sw:aL ⟨a.status,mS a.fields b.fields,a.body⟩=wL aN (mS a.fields b.fields)+a.body.length:=rfl;have u1:=oz a (by omega);try simp at u1
 have u2:=TW a b (by omega) (by omega) a.fields (by omega);try simp at u2
 have u3:=tM ⟨a.status,mS a.fields b.fields,a.body⟩ (by omega);try simp at u3
 rw[Dz,show b.fields.foldl (λg f=>jb g f.name f.value) a.fields=mS a.fields b.fields from rfl] at u2;unfold merge;generalize mS a.fields b.fields=M at u2 u3⊢;cases g:eZ ⟨a.status,M,a.body⟩<;>rw[g] at u3;all_goals
 simp -implicitDefEqProofs [Ez,u1,u2,u3,g];all_goals (repeat' split)<;>first|rfl|omega|(simp_all;done)|(simp_all;omega)|skip
end M
set_option maxHeartbeats 8000000
namespace M
open Go
variable [Fd]
def MW(c:Ca)(a:Int)(hc:c.aD.length<=1073741824):ev LI TT 67 [.ptr .af (aJ .af c),.int .i64 a]=some (.bool (mD c a).isSome,[.dead,.dead]):=by
 rw[aF (b:=Eg) (rs:=[.t 4]) (n:=2) rfl rfl];have hw:=dN (n:=(c.aD.length:Int) - 1) (by omega) (by omega)
 have e:(mD c a).isSome=decide (0<=a/\a<=(c.aD.length:Int) - 1):=by
  unfold mD;split
  ·rename_i h;rw[Bool.eq_iff_iff,bx,vD];constructor;·rintro ⟨f,hf⟩;obtain⟨hl,_⟩:=aQ.1 hf;omega
   ·intro h2;exact⟨_,cm (by omega)⟩
  ·rename_i h;simp;omega
 rw[e];simp -implicitDefEqProofs [Eg,hw];all_goals (repeat' split)<;>first|rfl|omega|(simp_all;done)|(simp_all;omega)|skip
def KT(c:Ca)(f:Fl)(r:aU)(kind:Int):∀(l:List Int) (c:Ca),l.foldl (λc k=>j6 c k f.q r kind) c=⟨c.au,c.aD,c.now,c.seen,c.sent++l.map λk=>je c k f.q r kind⟩
 |[],c=>by simp
 |k::l,c=>by rw[vG,KT c f r kind l];simp[j6,je]
def TN(c:Ca)(a:Int)(f:Fl)(r:aU)(kd:Int)(hf:f.who.length<=100000000)(hs:c.sent.length<=100000000)(hq:bg f.q<=1073741824)(hr:aL r<=1073741824)(x:Ca)(hinv:x.sent.length=c.sent.length+0):aX (aA (ev LI TT) (aB TT) qy) [(0,.ai 100000 [] 0 0),(3,.int .i64 kd),(6,.ptr .own (cF .af r)),(8,.ptr .own (bE .own f)),(29,.ai 8 [] 0 4),(30,.ref 8 [(0,4)]),(31,.int .i64 f.who.length),(32,.int .i64 0),(100000,.ptr .own (aJ .own x))]=some (.exit 0,[(0,.ai 100000 [] 0 0),(3,.int .i64 kd),(6,.ptr .own (cF .af r)),(8,.ptr .own (bE .own f)),(29,.ai 8 [] 0 4),(30,.ref 8 [(0,4)]),(31,.int .i64 f.who.length),(32,.int .i64 (f.who).length),(33,.bool false),(100000,.ptr .own (aJ .own (foldI ((λ_ x k=>j6 x k f.q r kd)) 0 (f.who) x)))]):=by
 refine mR (f:=aA (ev LI TT) (aB TT) qy) (f.who) (λi (x:Ca)=>[(0,.ai 100000 [] 0 0),(3,.int .i64 kd),(6,.ptr .own (cF .af r)),(8,.ptr .own (bE .own f)),(29,.ai 8 [] 0 4),(30,.ref 8 [(0,4)]),(31,.int .i64 f.who.length),(32,.int .i64 i),(100000,.ptr .own (aJ .own x))]) ((λ_ x k=>j6 x k f.q r kd)) (λx=>[(0,.ai 100000 [] 0 0),(3,.int .i64 kd),(6,.ptr .own (cF .af r)),(8,.ptr .own (bE .own f)),(29,.ai 8 [] 0 4),(30,.ref 8 [(0,4)]),(31,.int .i64 f.who.length),(32,.int .i64 (f.who).length),(33,.bool false),(100000,.ptr .own (aJ .own x))]) (λi (x:Ca)=>x.sent.length=c.sent.length+i) x hinv (λi b x hi hl hinv=>?_) (λi b x hi hinv=>?_) (λx hinv=>?_)
 ·have hw:=cw i (by omega);obtain⟨_,rfl⟩:=aQ.1 hi;have u1:=Hh x (f.who[i]) f.q r kd (by omega) hq hr;try simp at u1
  simp -implicitDefEqProofs [qy,Al,hl,hw,u1];all_goals (repeat' split)<;>first|rfl|omega|(simp_all;done)|(simp_all;omega)|skip
 ·simp only[j6,fO,cV,jl];omega
 ·simp -implicitDefEqProofs [qy,Al]
def NG:∀(l:List (List X)) (i:Nat) (z:List X),X.clean.bn l=true->X.clean.cB z=true->X.clean.bn (l.set i z)=true
 |[],i,z,_,_=>by simp[X.clean.bn]
 |a::l,0,z,h,hz=>by simp only[X.clean.bn,ax,aO] at h⊢;exact⟨hz,h.2⟩
 |a::l,i+1,z,h,hz=>by simp only[X.clean.bn,ax,aP] at h⊢;exact⟨h.1,NG l i z h.2 hz⟩
def MQ(z:List X)(hz:X.clean.cB z=true)(l:List Fl)(n:Nat)(h:n<l.length):ev LI TT 113 [.row .own 13 ((l.map (bE .own)).set n z),.int .i64 (n:Int),.int .i64 ((n:Int)+1)]=some (.row .own 13 ((l.eraseIdx n).map (bE .own)),[.dead,.dead,.dead]):=by rw[Wq _ n (by simpa using h) (NG _ n z (ND l) hz),List.eraseIdx_set_eq,Oe]
def Vv(c:Ca)(a:Int)(f:Fl)(r:aU)(kd:Int)(ha:mD c a=some f)(hc:bh c<=100000000)(hr:aL r<=1073741824):ev LI TT 71 [.ptr .own (aJ .own c),.int .i64 a,.agg (cF .af r),.int .i64 kd]=some (.aj [],[.ptr .own (aJ .own (iG c a.toNat f r kd)),.dead,.dead,.dead]):=by
 rw[aF (b:=w5) (rs:=[]) (n:=4) rfl rfl];obtain⟨f0,f1,f2,f3⟩:=wF ha;obtain⟨n,hn⟩:∃n:Nat,a=n:=⟨a.toNat,by omega⟩;subst hn;rw[pP] at f1 f2⊢;have jV:=fH c;have hl:=bC (w:=dM) c.sent;have jy:=bC (w:=bM) c.aD;have hm:=iu (w:=bM) f3;have uh:bM f=bg f.q+wL wO f.who+aZ f.old:=rfl;have h2:=bC (w:=wO) f.who;have hw:=cw n (by omega);have sn:=Kr c.aD n f f2;have fX:c.aD[n]=f:=(aQ.1 f2).2;have u1:=MQ [.int .i64 f.q.method,.str ⟨f.q.path.toArray⟩,.dead,.str ⟨f.q.body.toArray⟩,.dead,.str ⟨f.old.path.toArray⟩,.dead,.dead,.int .i64 f.old.resp.status,.dead,.str ⟨f.old.resp.body.toArray⟩,.int .i64 f.old.t,.bool f.gp] rfl c.aD n f1;try simp at u1
 have u2:=TN ⟨c.au,c.aD.eraseIdx n,c.now,c.seen,c.sent⟩ n f r kd (by omega) (by show c.sent.length<=_;omega) (by omega) hr ⟨c.au,c.aD.eraseIdx n,c.now,c.seen,c.sent⟩ (by simp);try simp at u2
 rw[Dz,KT c f r kd] at u2;rw[show (f.who.map λk=>je ⟨c.au,c.aD.eraseIdx n,c.now,c.seen,c.sent⟩ k f.q r kd)=f.who.map λk=>je c k f.q r kd from rfl] at u2;unfold iG;generalize (f.who.map λk=>je c k f.q r kd)=S at u2⊢;try simp at u2
 simp -implicitDefEqProofs [w5,u1,u2,f1,f2,hw,sn,gQ,fX];all_goals (repeat' split)<;>first|rfl|omega|(simp_all;done)|(simp_all;omega)|skip
end M
set_option maxHeartbeats 8000000
namespace M
open Go
variable [Fd]
def Vt(c:Ca)(a:Int)(hc:bh c<=100000000):ev LI TT 37 [.ptr .own (aJ .own c),.int .i64 a]=some (.int .i64 (wz c a).2,[.ptr .own (aJ .own (wz c a).1),.dead]):=by
 rw[aF (b:=wZ) (rs:=[.t 4]) (n:=2) rfl rfl];have jV:=fH c;have jy:=bC (w:=bM) c.aD;have u1:=MW c a (by omega);try simp at u1
 unfold wz;cases g:mD c a with
 |none=>rw[g] at u1;simp at u1;simp -implicitDefEqProofs [wZ,u1]
 |some f=>
 rw[g] at u1;simp at u1;simp only;by_cases g2:1495<=(c.sent.length:Int);·simp -implicitDefEqProofs [wZ,u1,g2]
 have v1:=Vv c a f ⟨504,[],[]⟩ 4 g hc (by simp[aL,wL]);rw[az g2];generalize iG c a.toNat f ⟨504,[],[]⟩ 4=R at v1⊢;simp at v1;simp -implicitDefEqProofs [wZ,u1,g2,v1];all_goals (repeat' split)<;>first|rfl|omega|(simp_all;done)|(simp_all;omega)|skip
def Vz(c:Ca)(a:Int)(hn:0<=c.now/\c.now<=1000000):ev LI TT 38 [.ptr .own (aJ .own c),.int .i64 a]=some (.int .i64 (yo c a).2,[.ptr .own (aJ .own (yo c a).1),.dead]):=by
 rw[aF (b:=Ar) (rs:=[.t 4]) (n:=2) rfl rfl];have hw:=dN (n:=1000000 - c.now) (by omega) (by omega);unfold yo;by_cases g:0<=a/\a<=1000000 - c.now;rotate_left;·simp -implicitDefEqProofs [Ar,hw,g]
 have dW:=dN (n:=c.now+a) (by omega) (by omega);simp -implicitDefEqProofs [Ar,hw,g,dW];all_goals (repeat' split)<;>first|rfl|omega|(simp_all;done)|(simp_all;omega)|skip
def Vr(c:Ca)(b:Bn)(h:gR c.au=true)(hc:bh c<=100000000)(hb:bK b<=10000000):ev LI TT 39 [.ptr .own (aJ .own c),.agg (dH b)]=some (.int .i64 (vS c b).2,[.ptr .own (aJ .own (vS c b).1),.dead]):=by
 rw[aF (b:=Ee) (rs:=[.t 4]) (n:=2) rfl rfl];have jV:=fH c;unfold vS;obtain⟨e,he,h1,h2,h3,h4⟩:∃e,e=vR b c.now/\e.kind=b.kind/\e.a=b.a/\e.b=b.b/\e.t=c.now:=⟨_,rfl,rfl,rfl,rfl,rfl⟩;have r9:bK e=bK b:=by rw[he];rfl
 rw[<-he];have u1:=M7 c.au e h (by omega) (by omega);try simp at u1
 simp[h1,h2,h3,h4] at u1;generalize mj c.au e=S at*;cases g:p6 c.au e<;>rw[g] at u1;all_goals
 simp -implicitDefEqProofs [Ee,u1,dL];all_goals (repeat' split)<;>first|rfl|omega|(simp_all;done)|(simp_all;omega)|skip
@[simp] def NX(c:Ca)(n:Nat)(f:Fl):List X:=[.row .own 1 (c.au.bp.cells.map eS),.row .own 2 (c.au.bp.pending.map eW),.row .own 9 (c.au.aG.map (av .own)),.row .own 4 (c.au.aW.map dH),.int .i64 c.au.next,.int .i64 c.au.seq,.row .own 13 ((c.aD.map (bE .own)).set n (bE .sl f)),.int .i64 c.now,.row .own 8 (c.seen.map (oC .own)),.row .own 18 (c.sent.map (ic .own))]
def Ul(c:Ca)(a:Int)(f:Fl)(r:aU)(kd:Int)(hf:f.who.length<=100000000)(hs:c.sent.length<=100000000)(hq:bg f.q<=1073741824)(hr:aL r<=1073741824)(x:Ca)(hinv:x.sent.length=c.sent.length+0):aX (aA (ev LI TT) (aB TT) qy) [(0,.ai 100000 [] 0 0),(3,.int .i64 kd),(6,.ptr .own (cF .af r)),(8,.ptr .own (bE .sl f)),(29,.ai 8 [] 0 4),(30,.row .sl 1 (f.who.map eI)),(31,.int .i64 f.who.length),(32,.int .i64 0),(100000,.ptr .own (aJ .own x))]=some (.exit 0,[(0,.ai 100000 [] 0 0),(3,.int .i64 kd),(6,.ptr .own (cF .af r)),(8,.ptr .own (bE .sl f)),(29,.ai 8 [] 0 4),(30,.row .sl 1 (f.who.map eI)),(31,.int .i64 f.who.length),(32,.int .i64 (f.who).length),(33,.bool false),(100000,.ptr .own (aJ .own (foldI ((λ_ x k=>j6 x k f.q r kd)) 0 (f.who) x)))]):=by
 refine mR (f:=aA (ev LI TT) (aB TT) qy) (f.who) (λi (x:Ca)=>[(0,.ai 100000 [] 0 0),(3,.int .i64 kd),(6,.ptr .own (cF .af r)),(8,.ptr .own (bE .sl f)),(29,.ai 8 [] 0 4),(30,.row .sl 1 (f.who.map eI)),(31,.int .i64 f.who.length),(32,.int .i64 i),(100000,.ptr .own (aJ .own x))]) ((λ_ x k=>j6 x k f.q r kd)) (λx=>[(0,.ai 100000 [] 0 0),(3,.int .i64 kd),(6,.ptr .own (cF .af r)),(8,.ptr .own (bE .sl f)),(29,.ai 8 [] 0 4),(30,.row .sl 1 (f.who.map eI)),(31,.int .i64 f.who.length),(32,.int .i64 (f.who).length),(33,.bool false),(100000,.ptr .own (aJ .own x))]) (λi (x:Ca)=>x.sent.length=c.sent.length+i) x hinv (λi b x hi hl hinv=>?_) (λi b x hi hinv=>?_) (λx hinv=>?_)
 ·have hw:=cw i (by omega);obtain⟨_,rfl⟩:=aQ.1 hi;have u1:=Hh x (f.who[i]) f.q r kd (by omega) hq hr;try simp at u1
  simp -implicitDefEqProofs [qy,Al,hl,hw,u1];all_goals (repeat' split)<;>first|rfl|omega|(simp_all;done)|(simp_all;omega)|skip
 ·simp only[j6,fO,cV,jl];omega
 ·simp -implicitDefEqProofs [qy,Al]
def C7(c:Ca)(a:Int)(f:Fl)(r:aU)(kd:Int)(ha:mD c a=some f)(hc:bh c<=100000000)(hr:aL r<=1073741824):ev LI TT 71 [.ptr .own (NX c a.toNat f),.int .i64 a,.agg (cF .af r),.int .i64 kd]=some (.aj [],[.ptr .own (aJ .own (iG c a.toNat f r kd)),.dead,.dead,.dead]):=by
 rw[aF (b:=w5) (rs:=[]) (n:=4) rfl rfl];obtain⟨f0,f1,f2,f3⟩:=wF ha;obtain⟨n,hn⟩:∃n:Nat,a=n:=⟨a.toNat,by omega⟩;subst hn;rw[pP] at f1 f2⊢;have jV:=fH c;have hl:=bC (w:=dM) c.sent;have jy:=bC (w:=bM) c.aD;have hm:=iu (w:=bM) f3;have uh:bM f=bg f.q+wL wO f.who+aZ f.old:=rfl;have h2:=bC (w:=wO) f.who;have hw:=cw n (by omega);have fX:c.aD[n]=f:=(aQ.1 f2).2;have u1:=MQ (bE .sl f) (by simp[X.clean.cB,X.clean]) c.aD n f1;try simp at u1
 have u2:=Ul ⟨c.au,c.aD.eraseIdx n,c.now,c.seen,c.sent⟩ n f r kd (by omega) (by show c.sent.length<=_;omega) (by omega) hr ⟨c.au,c.aD.eraseIdx n,c.now,c.seen,c.sent⟩ (by simp);try simp at u2
 rw[Dz,KT c f r kd] at u2;rw[show (f.who.map λk=>je ⟨c.au,c.aD.eraseIdx n,c.now,c.seen,c.sent⟩ k f.q r kd)=f.who.map λk=>je c k f.q r kd from rfl] at u2;unfold iG;generalize (f.who.map λk=>je c k f.q r kd)=S at u2⊢;try simp at u2
 simp -implicitDefEqProofs [w5,u1,u2,f1,f2,hw,gQ,fX];all_goals (repeat' split)<;>first|rfl|omega|(simp_all;done)|(simp_all;omega)|skip
end M
set_option maxHeartbeats 8000000
namespace M
open Go
variable [Fd]
def QA(a b:aU):aL (merge a b)<=aL a+aL b:=by have hm:=Kq b.fields a.fields;have hw1:aL a=wL aN a.fields+a.body.length:=rfl;have dW:aL b=wL aN b.fields+b.body.length:=rfl;have sw:aL ⟨a.status,mS a.fields b.fields,a.body⟩=wL aN (mS a.fields b.fields)+a.body.length:=rfl;unfold merge;split<;>omega
def FN{q:Rq}{r:aU}{t:Int}(h:mT q r t=true):aZ (lG q r t)<=1300:=by unfold lG;rw[aq h];unfold mT at h;simp only[ax] at h;exact BM h.2
def acX{q:Rq}{r:aU}{t:Int}(h:mT q r t=true):(lG q r t).t=t:=by unfold lG;rw[aq h];rfl
def GW(q:Rq)(o:Ob)(now:Int):aL (answer q o now)<=aL o.resp+800:=by
 have ho:aL (if yf q o.resp.fields=true then qX o.resp else o.resp)<=aL o.resp:=by
  split;·have h:=RQ o.resp;have e:aL o.resp=wL aN o.resp.fields+o.resp.body.length:=rfl;show wL aN (o.resp.fields.filter jE)+0<=_;omega
  ·omega
 unfold answer;generalize (if yf q o.resp.fields=true then qX o.resp else o.resp)=out at ho⊢;dsimp only;split;·rename_i h;have:=FW h;omega
 ·omega
def Ft(c:Ca)(o:Ob):bh (dL c (iE c.au o))<=bh c+aZ o+2100:=by have h:=abT c.au o;have e1:=fH c;have e2:bh (dL c (iE c.au o))=cR (iE c.au o)+wL bM c.aD+wL gU c.seen+wL dM c.sent:=rfl;omega
def Vy(c:Ca)(a:Int)(f:Fl)(r:aU)(ha:mD c a=some f)(h:gR c.au=true)(hn:bI c.now)(hc:bh c<=50000000)(hr:aL r<=10000000):ev LI TT 68 [.ptr .own (NX c a.toNat f),.int .i64 a,.agg (cF .af r)]=some (.aj [],[.ptr .own (aJ .own (B2 c a.toNat f r)),.dead,.dead]):=by
 rw[aF (b:=w6) (rs:=[]) (n:=3) rfl rfl];obtain⟨f0,f1,f2,f3⟩:=wF ha;obtain⟨n,hna⟩:∃n:Nat,a=n:=⟨a.toNat,by omega⟩;subst hna;rw[pP] at f1 f2⊢;have jV:=fH c;have jy:=bC (w:=bM) c.aD;have hm:=iu (w:=bM) f3;have uh:bM f=bg f.q+wL wO f.who+aZ f.old:=rfl;have how:aZ f.old=f.old.path.length+wL wS f.old.names+wL wS f.old.values+aL f.old.resp:=rfl;have hqw:bg f.q=f.q.path.length+wL aN f.q.fields+f.q.body.length:=rfl;have zU:bg (pL f)=f.old.path.length+wL aN f.q.fields+0:=rfl;have hnl:=bC (w:=wS) f.old.names;have fX:c.aD[n]=f:=(aQ.1 f2).2;have hmw:=QA f.old.resp r;have u1:=VK f.old.resp r (by omega) (by omega);try simp at u1
 have u2:=M3 (pL f) (merge f.old.resp r) c.now (by omega) (by omega);try simp at u2
 simp only[pL] at u2;try simp at u2
 have v0:=C7 c n f (merge f.old.resp r) 3 ha (by omega) (by omega);rw[pP] at v0;unfold B2 KR kP;rw[show (⟨1,f.old.path,f.q.fields,[]⟩:Rq)=pL f from rfl] at u2;have zH:=FN (q:=pL f) (r:=merge f.old.resp r) (t:=c.now);have Ip:=acX (q:=pL f) (r:=merge f.old.resp r) (t:=c.now);generalize lG (pL f) (merge f.old.resp r) c.now=O at*;generalize merge f.old.resp r=M at*;generalize iG c n f M 3=R0 at v0⊢;simp at v0;cases g:mT (pL f) M c.now<;>rw[g] at u2;·simp -implicitDefEqProofs [w6,An,Ao,Ap,f1,f2,fX,gQ,ghost,kA,gH,u1,u2,v0]
 have zH:=zH g;have Ip:=Ip g;have hOo:aZ O=O.path.length+wL wS O.names+wL wS O.values+aL O.resp:=rfl;have hON:=bC (w:=wS) O.names;have v1:=yY O.names f.old.names (by omega);try simp at v1
 by_cases g2:O.names=f.old.names;rotate_left;·simp -implicitDefEqProofs [w6,An,Ao,Ap,f1,f2,fX,gQ,ghost,kA,gH,u1,u2,v0,v1,g2]
 have v2:=M8 c.au O h (by omega) (by omega);have v3:=MT f.q O c.now (by omega) (by omega) (by rw[Ip];exact hn) hn;have v4:=C7 (dL c (iE c.au O)) n f (answer f.q O c.now) 3 ha (by have:=Ft c O;omega) (by have:=GW f.q O c.now;omega);rw[pP] at v4;rw[show (true && decide (O.names=f.old.names))=true by simp[g2],aq rfl];generalize answer f.q O c.now=A at*;generalize iE c.au O=S at*;generalize iG (dL c S) n f A 3=R1 at v4⊢;simp[dL] at v2 v3 v4;rw[g2] at v1 u2 v2 v3;simp -implicitDefEqProofs [w6,u1,u2,f1,f2,fX,gQ,ghost,kA,gH,v1,v2,v3,v4,g2,An,Ao,Ap];all_goals (repeat' split)<;>first|rfl|omega|(simp_all;done)|(simp_all;omega)|skip
end M
