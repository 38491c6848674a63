/- What the functions come to in the machine; no conditions. -/
import Derived.Test.YtjijmdiikmeikaaGreatDoorCona
import Derived.Test.YtjijmdiikmeikaaGreatDoorMc
set_option linter.defProp false
set_option linter.unusedSectionVars false
set_option linter.unusedVariables false
set_option linter.unusedSimpArgs false
namespace M
open Go
def cI(s:ag):Int×ag×Bool:=match cP 10 s with
 |some (l,b)=>match bx 32 l with
  |[_,w,_]=>if iI ((bn w).getD 0:Nat) b=s then ((((bn w).getD 0:Nat):Int),b,true) else (0,[],false)
  |_=>(0,[],false)
 |none=>(0,[],false)
def QJ(s:ag)(hb:s.length<=1073741824):ev LI TT 54 [.str ⟨s.toArray⟩]=some (.av [.int .i64 ((cI s).1),.str ⟨((cI s).2.1).toArray⟩,.bool ((cI s).2.2)],[.dead]):=by
 rw[aq (b:=qH) (rs:=[.t 2,.t 3,.t 4]) (n:=1) rfl rfl];have u1:=EO s 0 (by omega) hb;simp only[yf,ye,JR] at u1;unfold cI;cases hc:cP 10 s with
 |none=>rw[hc] at u1;have u2:=wH [] (by simp);simp at u1 u2;simp -implicitDefEqProofs [qH,u1,u2]
 |some p=>
 obtain⟨l,b⟩:=p;rw[hc] at u1;have hd:=uk hc;simp only at hd;obtain⟨d1,d2,d3⟩:=hd;have u2:=wH l (by omega);have d4:¬(((s.length - b.length:Nat):Int)<0):=by omega
 have d5:s.length - b.length<=s.length:=by omega
 have d6:¬s=[]:=by rintro rfl;simp at d1
 have hm:=pE 32 l;simp only at u1;generalize s.length - b.length=e at u1 d2 d4 d5;have d7:(e:Int)<=s.length:=by omega
 rcases hw:bx 32 l with _|⟨w0,_|⟨w1,_|⟨w2,_|⟨w3,ws⟩⟩⟩⟩;·exact absurd hw (zf 32 l)
 ·rw[hw] at u2;simp at u1 u2;simp -implicitDefEqProofs [qH,u1,u2,hw,d4]
 ·rw[hw] at u2;simp at u1 u2;simp -implicitDefEqProofs [qH,u1,u2,hw,d4]
 rotate_left
 ·rw[hw] at u2;have hn:¬((ws.length:Int)+1+1+1+1=3):=by omega
  simp at u1 u2;simp -implicitDefEqProofs [qH,u1,u2,hw,d4,hn]
 have hw1:=hm w1 (by rw[hw];simp);rw[hw] at u2;have u3:=tW w1 (by omega);have u4:=abd ((bn w1).getD 0:Nat) b (by omega);simp at u1 u2 u3;obtain⟨n,hn⟩:∃n,(bn w1).getD 0=n:=⟨_,rfl⟩;rw[hn] at u3 u4;have d8:s.length - e=b.length:=by rw[<-d2];simp
 by_cases g:iI (n:Int) b=s;·simp -implicitDefEqProofs [qH,u1,u2,hw,u3,u4,d2,d4,d5,d6,d7,d8,hn,eq_true g,Lib.extract_mk]
 simp -implicitDefEqProofs [qH,u1,u2,hw,u3,u4,d2,d4,d5,d6,d7,d8,hn,eq_false g,Lib.extract_mk];all_goals (repeat' split)<;>first|rfl|omega|(simp_all;done)|(simp_all;omega)|skip
def Ql(s:ag)(hb:s.length<=1073741824):ev LI TT 139 [.str ⟨s.toArray⟩]=some (.av [.int .i64 ((cI s).1),.str ⟨((cI s).2.1).toArray⟩,.bool ((cI s).2.2)],[.dead]):=by
 rw[aq (b:=nD) (rs:=[.t 2,.t 3,.t 4]) (n:=1) rfl rfl];have u1:=wI s [10] (by omega);have ec:=E4 10 s;unfold cI;cases hc:cP 10 s with
 |none=>rw[hc] at ec;have u2:=tZ s 32 (by omega);simp only at ec;rw[ec] at u1;simp at u1 u2;simp -implicitDefEqProofs [nD,u1,u2]
 |some p=>
 obtain⟨l,b⟩:=p;rw[hc] at ec;simp only at ec;rw[ec] at u1;have hd:=uk hc;simp only at hd;obtain⟨d1,d2,d3⟩:=hd;have u2:=tZ l 32 (by omega);have d6:¬s=[]:=by rintro rfl;simp at d1
 have hm:=pE 32 l;simp only at u1;rcases hw:bx 32 l with _|⟨w0,_|⟨w1,_|⟨w2,_|⟨w3,ws⟩⟩⟩⟩;·exact absurd hw (zf 32 l)
 ·rw[hw] at u2;simp at u1 u2;simp -implicitDefEqProofs [nD,u1,u2,hw]
 ·rw[hw] at u2;simp at u1 u2;simp -implicitDefEqProofs [nD,u1,u2,hw]
 rotate_left
 ·rw[hw] at u2;have hn:¬((ws.length:Int)+1+1+1+1=3):=by omega
  simp at u1 u2;simp -implicitDefEqProofs [nD,u1,u2,hw,hn]
 have hw1:=hm w1 (by rw[hw];simp);rw[hw] at u2;have u3:=tV w1 (by omega);cases hq:bn w1 with
 |none=>
  rw[hq] at u3;have g:¬iI ((0:Nat):Int) b=s:=by rw[show iI ((0:Nat):Int) b=[] by unfold iI;rw[aE (by omega)]];exact λh=>d6 h.symm
  simp at u1 u2 u3 g;simp -implicitDefEqProofs [nD,u1,u2,hw,hq,u3,eq_false g]
 |some n=>
 rw[hq] at u3;have u4:=ZE (n:Int) b (by omega);simp at u1 u2 u3;by_cases h0:n=0
 ·subst h0;have g:¬iI ((0:Nat):Int) b=s:=by rw[show iI ((0:Nat):Int) b=[] by unfold iI;rw[aE (by omega)]];exact λh=>d6 h.symm
  simp at g;simp -implicitDefEqProofs [nD,u1,u2,hw,hq,u3,eq_false g]
 by_cases g:iI (n:Int) b=s;·simp -implicitDefEqProofs [nD,u1,u2,hw,hq,u3,u4,h0,eq_true g]
 simp -implicitDefEqProofs [nD,u1,u2,hw,hq,u3,u4,h0,eq_false g];all_goals (repeat' split)<;>first|rfl|omega|(simp_all;done)|(simp_all;omega)|skip
end M
set_option maxHeartbeats 4000000
namespace M
open Go
def n8:ag:=[112,97,116,104]
def n6:ag:=[98,101,108,111,119]
def n7:ag:=[102,105,101,108,100]
def mS(k:Int):ag:=if k=1 then n8 else if k=2 then n6 else n7
def qo(w:ag):Int:=if w=n8 then 1 else if w=n6 then 2 else if w=n7 then 3 else 0
def kB(b:Bn):ag:=if en b=true then [98,97,110]++32::(mS b.kind++32::(cH b.t++32::(b.a++if b.kind=3 then 10::b.b else []))) else []
def Qc{b:Bn}(h:en b=true):b.kind=1\/b.kind=2\/b.kind=3:=by
 unfold en at h;by_cases h1:b.kind=1;·exact Or.inl h1
 by_cases h2:b.kind=2;·exact Or.inr (Or.inl h2)
 by_cases h3:b.kind=3;·exact Or.inr (Or.inr h3)
 simp[h1,h2,h3] at h
def apS(k:Int):(mS k).length<=5:=by unfold mS;(repeat' split)<;>simp[n8,n6,n7]
def EK(k:Int)(hk:k=1\/k=2\/k=3):ev LI TT 202 [.int .i64 k]=some (.str ⟨(mS k).toArray⟩,[.dead]):=by
 rw[aq (b:=Gq) (rs:=[.t 2]) (n:=1) rfl rfl];rcases hk with rfl|rfl|rfl;all_goals
 simp -implicitDefEqProofs [Gq,mS,n8,n6,n7,Dz,vJ,yg,bC];all_goals (repeat' split)<;>first|rfl|omega|(simp_all;done)|(simp_all;omega)|skip
def aaV(b:Bn)(hb:aY b<=1073741824):ev LI TT 180 [.agg (aZ b)]=some (.str ⟨(kB b).toArray⟩,[.dead]):=by
 rw[aq (b:=CL) (rs:=[.t 2]) (n:=1) rfl rfl];obtain⟨kd,a0,b0,t0⟩:=b;have hw:aY ⟨kd,a0,b0,t0⟩=a0.length+b0.length:=rfl;have l1:=vh t0;unfold kB;have u1:=KF ⟨kd,a0,b0,t0⟩ hb;try simp at u1
 have u2:=tX t0;try simp at u2
 by_cases g:en ⟨kd,a0,b0,t0⟩=true;rotate_left;·simp -implicitDefEqProofs [CL,u1,u2,g]
 rw[g] at u1;rcases Qc g with h|h|h;all_goals simp only at h
 all_goals subst h
 all_goals
 simp -implicitDefEqProofs [CL,u1,u2,g,mS,n8,n6,n7,Dz,vJ,yg,bC,iY,NO];all_goals (try simp only[*,not_false_eq_true,di,lZ])
 all_goals (repeat rw[aA (by omega)])
 all_goals (try simp)
 all_goals first|done|omega|(refine⟨by omega,by omega,?_⟩;rw[show (⟨#[10]⟩:ByteArray)=⟨([10]:ag).toArray⟩ from rfl,iY,iY];simp;done)|skip
def Zl(b:Bn)(hb:aY b<=1073741824):ev LI TT 203 [.agg (aZ b)]=some (.str ⟨(kB b).toArray⟩,[.dead]):=by
 rw[aq (b:=A5) (rs:=[.t 2]) (n:=1) rfl rfl];obtain⟨kd,a0,b0,t0⟩:=b;have hw:aY ⟨kd,a0,b0,t0⟩=a0.length+b0.length:=rfl;have l1:=vh t0;have l2:=apS kd;unfold kB;have u1:=Ki ⟨kd,a0,b0,t0⟩ hb;try simp at u1
 have u2:=Km t0;try simp at u2
 by_cases g:en ⟨kd,a0,b0,t0⟩=true;rotate_left;·simp -implicitDefEqProofs [A5,u1,u2,g]
 rw[g] at u1;have u3:=EK kd (Qc g);try simp at u3
 by_cases h:kd=3;all_goals (try subst h)
 all_goals
 simp -implicitDefEqProofs [A5,u1,u2,u3,g,iY];all_goals (try simp only[*,not_false_eq_true,di,lZ])
 all_goals (repeat rw[aA (by omega)])
 all_goals (try simp)
 all_goals first|done|omega|(refine⟨by omega,by omega,?_⟩;rw[show (⟨#[10]⟩:ByteArray)=⟨([10]:ag).toArray⟩ from rfl,iY,iY];simp;done)|skip
end M
set_option maxHeartbeats 4000000
namespace M
open Go
def fD:List ag:=[n8,n6,n7]
def sF(w:ag)(i:Nat)(g:Int)(b:ag):Int:=if b=w then ((1+i:Nat):Int) else g
def Tz(w:ag):foldI (sF w) 0 fD 0=qo w:=by
 unfold qo sF;simp only[fD,foldI];by_cases h1:w=n8;·subst h1;rfl
 by_cases h2:w=n6;·subst h2;rfl
 by_cases h3:w=n7;·subst h3;rfl
 simp[h1,h2,h3,vU h1,vU h2,vU h3,eq_comm (b:=w)]
def XI(s w0 w1 w2 w3 v:ag)(g:Int)(hinv:True):aJ (ai (ev LI TT) (aj TT) CK) [(0,.str ⟨s.toArray⟩),(2,.ptr .own [.int .i64 0,.str ⟨#[]⟩,.str ⟨#[]⟩,.int .i64 0]),(6,.ptr .own [.int .i64 g,.str ⟨#[]⟩,.str ⟨v.toArray⟩,.int .i64 0]),(7,.row .own 1 ([w0,w1,w2,w3].map eS)),(8,.row .own 1 (([]::fD).map eS)),(9,.int .i64 ((1+0:Nat):Int))]=some (.exit 0,[(0,.str ⟨s.toArray⟩),(2,.ptr .own [.int .i64 0,.str ⟨#[]⟩,.str ⟨#[]⟩,.int .i64 0]),(6,.ptr .own [.int .i64 (foldI (sF w1) 0 (fD) g),.str ⟨#[]⟩,.str ⟨v.toArray⟩,.int .i64 0]),(7,.row .own 1 ([w0,w1,w2,w3].map eS)),(8,.row .own 1 (([]::fD).map eS)),(9,.int .i64 4),(33,.bool false)]):=by
 refine ic (f:=ai (ev LI TT) (aj TT) CK) (fD) (λi (g:Int)=>[(0,.str ⟨s.toArray⟩),(2,.ptr .own [.int .i64 0,.str ⟨#[]⟩,.str ⟨#[]⟩,.int .i64 0]),(6,.ptr .own [.int .i64 g,.str ⟨#[]⟩,.str ⟨v.toArray⟩,.int .i64 0]),(7,.row .own 1 ([w0,w1,w2,w3].map eS)),(8,.row .own 1 (([]::fD).map eS)),(9,.int .i64 ((1+i:Nat):Int))]) (sF w1) (λg=>[(0,.str ⟨s.toArray⟩),(2,.ptr .own [.int .i64 0,.str ⟨#[]⟩,.str ⟨#[]⟩,.int .i64 0]),(6,.ptr .own [.int .i64 g,.str ⟨#[]⟩,.str ⟨v.toArray⟩,.int .i64 0]),(7,.row .own 1 ([w0,w1,w2,w3].map eS)),(8,.row .own 1 (([]::fD).map eS)),(9,.int .i64 4),(33,.bool false)]) (λi (g:Int)=>True) g hinv (λi b g hi hl hinv=>?_) (λi b g hi hinv=>?_) (λg hinv=>?_)
 ·have hw:=aO i (by simp[fD] at hl;omega);obtain⟨_,rfl⟩:=aK.1 hi;have h3:i=0\/i=1\/i=2:=by simp[fD] at hl;omega
  by_cases hq:fD[i]=w1;all_goals rcases h3 with rfl|rfl|rfl
  all_goals simp only[fD,JV,PD] at hq
  all_goals
  simp -implicitDefEqProofs [CK,NN,hl,hw,sF,hq,fD,bC]
 ·trivial
 ·simp -implicitDefEqProofs [CK,NN,fD]
def WK(s w0 w1 w2 w3 v:ag)(is:Bool)(n:Int)(g:Int)(hinv:True):aJ (ai (ev LI TT) (aj TT) A4) [(0,.str ⟨s.toArray⟩),(2,.ptr .own [.int .i64 0,.str ⟨#[]⟩,.str ⟨#[]⟩,.int .i64 0]),(7,.row .own 1 ([w0,w1,w2,w3].map eS)),(9,.bool is),(10,.ptr .own [.int .i64 g,.str ⟨w3.toArray⟩,.str ⟨v.toArray⟩,.int .i64 n]),(11,.int .i64 ((1+0:Nat):Int))]=some (.exit 0,[(0,.str ⟨s.toArray⟩),(2,.ptr .own [.int .i64 0,.str ⟨#[]⟩,.str ⟨#[]⟩,.int .i64 0]),(7,.row .own 1 ([w0,w1,w2,w3].map eS)),(9,.bool is),(10,.ptr .own [.int .i64 (foldI (sF w1) 0 (fD) g),.str ⟨w3.toArray⟩,.str ⟨v.toArray⟩,.int .i64 n]),(11,.int .i64 4),(38,.bool false)]):=by
 refine ic (f:=ai (ev LI TT) (aj TT) A4) (fD) (λi (g:Int)=>[(0,.str ⟨s.toArray⟩),(2,.ptr .own [.int .i64 0,.str ⟨#[]⟩,.str ⟨#[]⟩,.int .i64 0]),(7,.row .own 1 ([w0,w1,w2,w3].map eS)),(9,.bool is),(10,.ptr .own [.int .i64 g,.str ⟨w3.toArray⟩,.str ⟨v.toArray⟩,.int .i64 n]),(11,.int .i64 ((1+i:Nat):Int))]) (sF w1) (λg=>[(0,.str ⟨s.toArray⟩),(2,.ptr .own [.int .i64 0,.str ⟨#[]⟩,.str ⟨#[]⟩,.int .i64 0]),(7,.row .own 1 ([w0,w1,w2,w3].map eS)),(9,.bool is),(10,.ptr .own [.int .i64 g,.str ⟨w3.toArray⟩,.str ⟨v.toArray⟩,.int .i64 n]),(11,.int .i64 4),(38,.bool false)]) (λi (g:Int)=>True) g hinv (λi b g hi hl hinv=>?_) (λi b g hi hinv=>?_) (λg hinv=>?_)
 ·have hw:=aO i (by simp[fD] at hl;omega);obtain⟨_,rfl⟩:=aK.1 hi;have h3:i=0\/i=1\/i=2:=by simp[fD] at hl;omega
  have b1:=EK 1 (by omega);have b2:=EK 2 (by omega);have b3:=EK 3 (by omega);simp only[mS,cN,show ¬((2:Int)=1) by omega,show ¬((3:Int)=1) by omega,show ¬((3:Int)=2) by omega,di] at b1 b2 b3;try simp at b1
  try simp at b2
  try simp at b3
  by_cases hq:fD[i]=w1;all_goals rcases h3 with rfl|rfl|rfl
  all_goals simp only[fD,JV,PD] at hq
  all_goals
  simp -implicitDefEqProofs [A4,L7,hl,hw,sF,hq,fD,bC,b1,b2,b3]
 ·trivial
 ·simp -implicitDefEqProofs [A4,L7,fD]
def zB:Bn:=⟨0,[],[],0⟩
def jj(s:ag):ag×ag:=match cP 10 s with
 |some p=>p
 |none=>(s,[])
def tT(s v:ag)(ws:List ag):Bn×Bool:=match ws with
 |[_,w,t,a]=>if kB ⟨qo w,a,v,((bn t).getD 0:Nat)⟩=s then (⟨qo w,a,v,((bn t).getD 0:Nat)⟩,true) else (zB,false)
 |_=>(zB,false)
def gA(s:ag):Bn×Bool:=tT s (jj s).2 (bx 32 (jj s).1)
def Qd{s v:ag}{ws:List ag}(h:ws.length≠4):tT s v ws=(zB,false):=by
 unfold tT;split;·simp at h
 ·rfl
def Hx{ws:List ag}(h:ws.length=4):∃a b c d,ws=[a,b,c,d]:=by
 match ws,h with
 |[a,b,c,d],_=>exact⟨a,b,c,d,rfl⟩
def Qb(s:ag):(jj s).1.length<=s.length/\(jj s).2.length<=s.length:=by
 unfold jj;cases h:cP 10 s with
 |none=>simp
 |some p=>have:=dF List.length (E0 h);simp at this⊢;omega
def Rk:∀(p r:ag),(∀b∈p,b≠10)->cP 10 (p++r)=(cP 10 r).map λq=>(p++q.1,q.2)
 |[],r,_=>by simp
 |b::p,r,h=>by rw[dG,cP,aE (h b (bH ..)),Rk p r λx hx=>h x (cl _ hx)];cases cP 10 r<;>simp
def Y0(p r:ag)(h:∀b∈p,b≠10):(jj (p++r)).1=p++(jj r).1:=by unfold jj;rw[Rk p r h];cases cP 10 r<;>simp
def Ov(w r:ag)(h:∀b∈w,b≠32):bx 32 (w++32::r)=w::bx 32 r:=by rw[DA 32 w _ h];simp[bx]
def VR(k:Int):∀b∈mS k,b≠32/\b≠10:=by unfold mS;(repeat' split)<;>simp[n8,n6,n7]
def Y6{s w0 w1 w2 w3 v a:ag}{k:Int}(h:kB ⟨k,a,v,0⟩=s)(hs:bx 32 (jj s).1=[w0,w1,w2,w3]):bn w2≠none\/s=[]:=by
 unfold kB at h;split at h
 ·left;have e:cH 0=[48]:=by simp[cH,wT]
  rw[e] at h;simp only at h;have e2:s=([98,97,110,32]++(mS k++[32,48,32]))++(a++if k=3 then 10::v else []):=by rw[<-h];simp
  rw[e2,Y0 _ _ (by intro b hb;simp at hb;rcases hb with rfl|rfl|rfl|rfl|hb|rfl|rfl|rfl<;>first|decide|exact(VR k b hb).2)] at hs;have e3:[98,97,110,32]++(mS k++[32,48,32])++(jj (a++if k=3 then 10::v else [])).1=[98,97,110]++32::(mS k++32::([48]++32::(jj (a++if k=3 then 10::v else [])).1)):=by simp
  rw[e3,Ov _ _ (by decide),Ov _ _ (λb hb=>(VR k b hb).1),Ov _ _ (by decide)] at hs;simp only[vZ] at hs;obtain⟨_,_,rfl,_⟩:=hs;simp[bn,kq,wT]
 ·right;exact h.symm
def aaU(s:ag)(hb:s.length<=1048576):ev LI TT 115 [.str ⟨s.toArray⟩]=some (.av [.agg (aZ ((gA s).1)),.bool ((gA s).2)],[.dead]):=by
 rw[aq (b:=qE) (rs:=[.c 2 4 true 75,.t 3]) (n:=1) rfl rfl];have u1:=EO s 0 (by omega) (by omega);have bl:=Qb s;simp only[yf,ye,JR] at u1;unfold gA
 have hX:∃l v e,jj s=(l,v)/\((e=-1/\v=[]/\l=s/\ev LI TT 116 [.str ⟨s.toArray⟩,.int .i64 0]=some (.av [.str ⟨#[]⟩,.int .i64 (-1)],[.dead,.dead]))\/(∃m:Nat,e=(m:Int)/\m<=s.length/\s.length - m=v.length/\s.drop m=v/\ev LI TT 116 [.str ⟨s.toArray⟩,.int .i64 0]=some (.av [.str ⟨l.toArray⟩,.int .i64 m],[.dead,.dead]))):=by
  unfold jj;cases hc:cP 10 s with
  |none=>rw[hc] at u1;exact⟨s,[],-1,rfl,Or.inl ⟨rfl,rfl,rfl,by simpa using u1⟩⟩
  |some p=>obtain⟨l,v⟩:=p;rw[hc] at u1;obtain⟨d1,d2,d3⟩:=uk hc;exact⟨l,v,_,rfl,Or.inr ⟨s.length - v.length,rfl,by omega,by simp only at d1;omega,d2,by simpa using u1⟩⟩
 clear u1;obtain⟨l,v,e,he,hX⟩:=hX;rw[he] at bl⊢;simp only at bl⊢;have u2:=wH l (by omega);have hm:=pE 32 l;by_cases h4:(bx 32 l).length=4;rotate_left
 ·rw[Qd h4];have rV:¬(((bx 32 l).length:Int)=4):=by omega
  try simp at u2
  rcases hX with ⟨rfl,rfl,rfl,u1⟩|⟨m,rfl,k1,k2,k3,u1⟩;·simp -implicitDefEqProofs [qE,u1,u2,rV,zB]
  ·have k4:¬((m:Int)<0):=by omega
   have k5:(m:Int)<=s.length:=by omega
   simp -implicitDefEqProofs [qE,u1,u2,rV,zB,k1,k2,k3,k4,k5,Lib.extract_mk]
 obtain⟨w0,w1,w2,w3,hw⟩:=Hx h4;rw[hw] at u2 hm⊢;have u3:=tW w2 (by have:=hm w2 (by simp);omega);have u4:=aaV ⟨qo w1,w3,v,((bn w2).getD 0:Nat)⟩ (by have:=hm w3 (by simp);simp only[aY];omega);have u5:=XI s w0 w1 w2 w3 v 0 trivial;rw[Tz] at u5;obtain⟨n,hn⟩:∃n,(bn w2).getD 0=n:=⟨_,rfl⟩;unfold tT;simp only[hn] at u3 u4⊢;simp[fD,n8,n6,n7] at u2 u3 u4 u5;by_cases g:kB ⟨qo w1,w3,v,(n:Int)⟩=s;all_goals rcases hX with ⟨rfl,rfl,rfl,u1⟩|⟨m,rfl,k1,k2,k3,u1⟩
 ·simp -implicitDefEqProofs [qE,u1,u2,u3,u4,u5,eq_true g,zB]
 ·have k4:¬((m:Int)<0):=by omega
  have k5:(m:Int)<=s.length:=by omega
  simp -implicitDefEqProofs [qE,u1,u2,u3,u4,u5,eq_true g,zB,k1,k2,k3,k4,k5,Lib.extract_mk]
 ·simp -implicitDefEqProofs [qE,u1,u2,u3,u4,u5,eq_false g,zB]
 have k4:¬((m:Int)<0):=by omega
 have k5:(m:Int)<=s.length:=by omega
 simp -implicitDefEqProofs [qE,u1,u2,u3,u4,u5,eq_false g,zB,k1,k2,k3,k4,k5,Lib.extract_mk];all_goals (repeat' split)<;>first|rfl|omega|(simp_all;done)|(simp_all;omega)|skip
def Zk(s:ag)(hb:s.length<=1048576):ev LI TT 141 [.str ⟨s.toArray⟩]=some (.av [.agg (aZ ((gA s).1)),.bool ((gA s).2)],[.dead]):=by
 rw[aq (b:=uI) (rs:=[.c 2 4 true 75,.t 3]) (n:=1) rfl rfl];have u1:=wI s [10] (by omega);have ec:=E4 10 s;have bl:=Qb s;unfold gA
 have hX:∃l v k,jj s=(l,v)/\ev LI TT 198 [.str ⟨s.toArray⟩,.str ⟨#[10]⟩]=some (.av [.str ⟨l.toArray⟩,.str ⟨v.toArray⟩,.bool k],[.dead,.dead]):=by
  unfold jj;cases hc:cP 10 s with
  |none=>rw[hc] at ec;simp only at ec;rw[ec] at u1;exact⟨s,[],_,rfl,u1⟩
  |some p=>rw[hc] at ec;simp only at ec;rw[ec] at u1;exact⟨p.1,p.2,_,rfl,u1⟩
 clear u1 ec;obtain⟨l,v,k,he,u1⟩:=hX;have hz:=λw0 w1 w2 w3 v a k=>Y6 (s:=s) (w0:=w0) (w1:=w1) (w2:=w2) (w3:=w3) (v:=v) (a:=a) (k:=k);rw[he] at bl hz⊢;simp only at bl hz⊢;have u2:=tZ l 32 (by omega);have hm:=pE 32 l;by_cases h4:(bx 32 l).length=4;rotate_left
 ·rw[Qd h4];have rV:¬(((bx 32 l).length:Int)=4):=by omega
  try simp at u2
  simp -implicitDefEqProofs [uI,u1,u2,rV,zB]
 obtain⟨w0,w1,w2,w3,hw⟩:=Hx h4;rw[hw] at u2 hm hz⊢;have u3:=tV w2 (by have:=hm w2 (by simp);omega);have u4:=Zl ⟨qo w1,w3,v,((bn w2).getD 0:Nat)⟩ (by have:=hm w3 (by simp);simp only[aY];omega);have u5:=WK s w0 w1 w2 w3 v (bn w2).isSome ((bn w2).getD 0:Nat) 0 trivial;rw[Tz] at u5;unfold tT;cases hn:bn w2 with
 |none=>
  rw[hn] at u3 u4 u5
  have g:¬kB ⟨qo w1,w3,v,0⟩=s:=by
   intro g;rcases hz _ _ _ _ _ _ _ g rfl with h|h;·exact h hn
   ·subst h;rw[show jj []=([],[]) from rfl] at he;obtain⟨rfl,rfl⟩:=Ei he;simp[bx] at h4
  simp[fD,n8,n6,n7] at u2 u3 u4 u5 g;simp -implicitDefEqProofs [uI,u1,u2,u3,u4,u5,hn,eq_false g,zB]
 |some n=>
 rw[hn] at u3 u4 u5;simp[fD,n8,n6,n7] at u2 u3 u4 u5;by_cases g:kB ⟨qo w1,w3,v,(n:Int)⟩=s;·simp -implicitDefEqProofs [uI,u1,u2,u3,u4,u5,hn,eq_true g,zB]
 simp -implicitDefEqProofs [uI,u1,u2,u3,u4,u5,hn,eq_false g,zB];all_goals (repeat' split)<;>first|rfl|omega|(simp_all;done)|(simp_all;omega)|skip
end M
set_option maxHeartbeats 4000000
namespace M
open Go
def UG{s:ag}(h:(cI s).2.2=false):cI s=(0,[],false):=by
 unfold cI at h⊢;(repeat' split at h)<;>first|(cases h;done)|skip
 all_goals (repeat' split)<;>simp_all
def HW{s:ag}(h:(cI s).2.2=true):1<=(cI s).1/\(cI s).1<=100000/\(cI s).2.1.length<=2000/\iI (cI s).1 (cI s).2.1=s/\s≠[]:=by
 unfold cI at h⊢;cases hc:cP 10 s with
 |none=>simp[hc] at h
 |some p=>
  obtain⟨l,b⟩:=p;have hs:s≠[]:=by rintro rfl;simp[cP] at hc
  simp only[hc] at h⊢;split at h
  ·rename_i w0 w w2 hw;split at h
   ·rename_i g;simp only[hw,g,cN];have g2:=g;unfold iI at g;split at g;·rename_i c;exact⟨c.1,c.2.1,c.2.2,by trivial,hs⟩
    ·exact absurd g.symm hs
   ·cases h
  ·cases h
def HU(s:ag):(cI s).2.1.length<=2000:=by
 cases h:(cI s).2.2;·rw[UG h];simp
 ·exact(HW h).2.2.1
def OH{s:ag}(h:eN s=true):s.length<=20:=by unfold eN at h;simp only[aC,bD] at h;omega
def OO{s:ag}(h:fX s=true):s.length<=60:=by unfold fX at h;simp only[aC,bD] at h;omega
def Us{s:ag}(h:iq s=true):s.length<=60:=by unfold iq at h;simp only[aC,bD] at h;omega
def qP{α:Type}{w:α->Nat}{l:List α}{n m:Nat}(h:∀x∈l,w x<=n)(hl:l.length<=m):wL w l<=m*(n+1):=by
 suffices H:wL w l<=l.length*(n+1) from e8 H (pI _ hl)
 clear hl;induction l with
 |nil=>simp[wL]
 |cons x l ih=>have h1:=h x (bH ..);have h2:=ih λy hy=>h y (cl _ hy);simp only[wL,dc,bE,tE,fH,JJ] at h2⊢;omega
def UK{r:bF}(h:eX r=true):aX r<=800:=by
 have A:=HY h;have h1:wL aH r.fields<=8*(80+1):=qP (λf hf=>by have:=Ff A.f hf;have h1:=OH this.1;have h2:=OO this.2.1;simp only[aH];omega) (RI A.f)
 have h2:=A.b;simp only[aX];omega
def yx{o:Ob}(h:cX o=true):aW o<=1300:=by
 have A:=Cy h;have h1:=UK A.resp;have h2:=Us A.path;have hn:∀x∈o.names,x.length<=20:=by have:=A.names;unfold yt at this;simp only[aC] at this;exact λx hx=>OH (ji.1 this.1 x hx)
 have h3:wL wS o.names<=4*(20+1):=qP hn A.n4;have h4:wL wS o.values<=4*(60+1):=qP (λx hx=>OO (A.vals x hx)) (by have:=A.len;have:=A.n4;omega);simp only[aW];omega
def Ud{s:ag}(h:(ij s).2=true):cX (ij s).1=true/\fm (ij s).1=s:=by have:=UF h;refine⟨this.1,?_⟩;have h2:cX (ij s).1=true:=this.1;unfold fm;rw[aA h2];exact this.2
def Ue(s:ag):aW (ij s).1<=1300:=by
 cases h:(ij s).2;·have:ij s=(dw,false):=UE h;rw[this];decide
 ·exact yx (Ud h).1
def Y1{b:Bn}(h:en b=true):aY b<=120:=by
 unfold en at h;simp only[aC,bD] at h;obtain⟨_,h⟩:=h;split at h;·simp only[aC,bD] at h;have:=Us h.1;simp[aY,h.2];omega
 ·split at h;·simp only[aC] at h;have h1:=OH h.1;have h2:=OO h.2;simp only[aY];omega
  ·cases h
def Y5{b:Bn}(h:kB b≠[]):en b=true:=by
 unfold kB at h;split at h;·assumption
 ·exact absurd rfl h
def Y3{s:ag}(h:(gA s).2=true)(hs:s≠[]):en (gA s).1=true/\kB (gA s).1=s:=by
 unfold gA tT at h⊢;split at h
 ·split at h;·rename_i hw hg;simp only[hw,hg,cN];exact⟨Y5 (by rw[hg];exact hs),trivial⟩
  ·cases h
 ·cases h
def Y2:gA []=(zB,false):=by simp[gA,tT,jj,cP,bx]
def Y4{s:ag}(h:(gA s).2=true):en (gA s).1=true/\kB (gA s).1=s:=by refine Y3 h ?_;rintro rfl;rw[Y2] at h;cases h
def ve(m n:Int):Int:=if n<100000 then max m n else m
def jR(d:bq)(i:Nat)(g:List Bn×Int)(_:Nat):(List Bn×Int) ⊕ ((List Bn×Int)×Int×Bn×Nat):=
 if (cI (cU d i)).2.2=true/\(gA (cI (cU d i)).2.1).2=true then .inl (g.1++[(gA (cI (cU d i)).2.1).1],ve g.2 (cI (cU d i)).1) else .inr (g,(cI (cU d i)).1,(gA (cI (cU d i)).2.1).1,i)
def z8{α β:Type}:α ⊕ (α×β)->α
 |.inl a=>a
 |.inr a=>a.1
def dK(d:bq):List Bn×Int:=z8 (dr (jR d) 0 (List.range 5) ([],0))
noncomputable def sR(bs:List Bn)(d:bq)(i:Nat)(g:List Kp×Int)(_:Nat):List Kp×Int:=
 if (cI (cU d ((5+i:Nat):Int))).2.2=true/\(ij (cI (cU d ((5+i:Nat):Int))).2.1).2=true/\(cI (cU d ((5+i:Nat):Int))).1<100000 then
  (if gE bs (ij (cI (cU d ((5+i:Nat):Int))).2.1).1=true then g.1 else g.1++[⟨(ij (cI (cU d ((5+i:Nat):Int))).2.1).1,((5+i:Nat):Int),(cI (cU d ((5+i:Nat):Int))).1⟩],max g.2 (cI (cU d ((5+i:Nat):Int))).1)
 else g
noncomputable def lI(bs:List Bn)(d:bq)(m:Int):List Kp×Int:=foldI (sR bs d) 0 (List.range 15) ([],m)
def oL(all:List Kp)(i:Nat)(k:Kp):Bool:=(all.drop (i+1)).any λx=>decide (x.seq=k.seq)||jV x.obj k.obj
def nO(all:List Kp)(i:Nat)(g:List Kp×Int)(k:Kp):List Kp×Int:=if oL all i k=true then g else (g.1++[k],yu k.at_)
def jP:List Kp->List Kp
 |[]=>[]
 |k::l=>if (l.any λx=>decide (x.seq=k.seq)||jV x.obj k.obj)=true then jP l else k::jP l
def HM(l:List Kp):Int:=l.getLast?.elim 5 λk=>yu k.at_
def kP(all:List Kp):List Kp×Int:=(jP all,HM (jP all))
def Cf:∀l:List Kp,List.Sublist (jP l) l
 |[]=>List.Sublist.refl _
 |k::l=>by
  unfold jP;split;·exact(Cf l).trans (List.sublist_cons_self ..)
  ·exact(Cf l).cons_cons k
def TD(all:List Kp):∀(l:List Kp) (i:Nat) (g:List Kp×Int),all.drop i=l->foldI (nO all) i l g=(g.1++jP l,if jP l=[] then g.2 else HM (jP l))
 |[],i,g,_=>by simp[foldI,jP]
 |k::l,i,g,h=>by
  have hd:all.drop (i+1)=l:=by rw[<-En,h];rfl
  rw[foldI,TD all l (i+1) _ hd];unfold nO oL;rw[hd];rw[show jP (k::l)=(if (l.any λx=>decide (x.seq=k.seq)||jV x.obj k.obj)=true then jP l else k::jP l) from rfl];split;·rfl
  ·simp only[mV,Wk,reduceCtorEq,di];congr 1;cases hL:jP l with
   |nil=>simp[HM]
   |cons a L=>simp[HM]
def TC(all:List Kp):foldI (nO all) 0 all ([],5)=kP all:=by
 rw[TD all all 0 _ rfl];unfold kP;simp only[e7];congr 1;split;·rename_i h;rw[h];rfl
 ·rfl
noncomputable def ju(d:bq):List Kp×Int:=lI (dK d).1 d (dK d).2
noncomputable def ig(d:bq):List Kp:=iw Kp.seq (ju d).1
noncomputable def fB(d:bq):Sh:=⟨d,(kP (ig d)).1,(dK d).1,(kP (ig d)).2,(ju d).2+1⟩
structure wm (k:Kp):Prop where
 o:cX k.obj=true
 a:5<=k.at_/\k.at_<=19
 s:1<=k.seq/\k.seq<100000
def HF(d:bq){i:Nat}{g:List Bn×Int}(hg:(∀b∈g.1,en b=true)/\g.1.length<=i/\0<=g.2/\g.2<100000){x:Nat}:
  (∀g',jR d i g x=.inl g'->(∀b∈g'.1,en b=true)/\g'.1.length<=i+1/\0<=g'.2/\g'.2<100000)/\∀e,jR d i g x=.inr e->e.1=g:=by
 unfold jR;by_cases c:(cI (cU d i)).2.2=true/\(gA (cI (cU d i)).2.1).2=true
 ·rw[aA c];refine⟨λg' h=>?_,λe h=>by cases h⟩;have r:=HW c.1;have b:=Y4 c.2;cases h;refine⟨λy hy=>?_,by simp;omega,?_,?_⟩
  ·rcases gO.1 hy with hy|hy;·exact hg.1 y hy
   ·simp at hy;subst hy;exact b.1
  ·simp only[ve];split<;>omega
  ·simp only[ve];split<;>omega
 ·rw[aE c];exact⟨λg' h=>(by cases h),λe h=>(by cases h;rfl)⟩
def sO(d:bq):(∀b∈(dK d).1,en b=true)/\(dK d).1.length<=5/\0<=(dK d).2/\(dK d).2<100000:=by
 have H:=NL (go:=jR d) (I:=λi g=>(∀b∈g.1,en b=true)/\g.1.length<=i/\0<=g.2/\g.2<100000) (O:=λe=>(∀b∈e.1.1,en b=true)/\e.1.1.length<=5/\0<=e.1.2/\e.1.2<100000) 5
  (λi g b hi hg=>⟨(HF d hg).1,λe he=>by rw[(HF d hg).2 e he];exact⟨hg.1,by omega,hg.2.2⟩⟩) (List.range 5) 0 ([],0) (by simp) (by simp)
 unfold dK;cases hr:dr (jR d) 0 (List.range 5) ([],0) with
 |inl g=>exact H.1 g hr
 |inr g=>exact H.2 g hr
def R6{β γ:Type}{go:Nat->γ->β->γ}(I:Nat->γ->Prop):∀(l:List β) (i:Nat) (g:γ),(∀j b g,i<=j->j<i+l.length->I j g->I (j+1) (go j g b))->I i g->I (i+l.length) (foldI go i l g)
 |[],i,g,_,h=>h
 |b::l,i,g,hs,h=>by rw[foldI,dc,show i+(l.length+1)=i+1+l.length by omega];exact R6 I l (i+1) _ (λj b g h1 h2 h3=>hs j b g (by omega) (by simp;omega) h3) (hs i b g (eP _) (by simp) h)
structure tO (i:Nat) (g:List Kp×Int):Prop where
 k:∀k∈g.1,wm k
 n:g.1.length<=i
 m:0<=g.2/\g.2<100000
 q:∀k∈g.1,k.seq<=g.2
 a:∀k∈g.1,k.at_<5+i
 d:g.1.Pairwise λx y=>x.at_≠y.at_
def Ng(bs:List Bn)(d:bq){i:Nat}(hi:i<15){g:List Kp×Int}(x:Nat)(h:tO i g):tO (i+1) (sR bs d i g x):=by
 unfold sR;split
 ·rename_i c;have r:=HW c.1;have o:=Ud c.2.1;have hm:=h.m;split;·exact⟨h.k,by have:=h.n;simp only;omega,by simp only;omega,λk hk=>by have:=h.q k hk;simp only;omega,λk hk=>by have:=h.a k hk;omega,h.d⟩
  ·generalize cI (cU d ((5+i:Nat):Int))=rr at*;generalize iG:((5+i:Nat):Int)=at_;refine⟨λk hk=>?_,by have:=h.n;rw[iN,List.length_singleton];omega,by constructor<;>(try dsimp only)<;>omega,λk hk=>?_,λk hk=>?_,?_⟩
   ·rcases gO.1 hk with hk|hk;·exact h.k k hk
    ·rw[fF] at hk;subst hk;exact⟨o.1,⟨by (try dsimp only);omega,by (try dsimp only);omega⟩,⟨r.1,c.2.2⟩⟩
   ·rcases gO.1 hk with hk|hk;·have:=h.q k hk;(try dsimp only);omega
    ·rw[fF] at hk;subst hk;(try dsimp only);omega
   ·rcases gO.1 hk with hk|hk;·have:=h.a k hk;omega
    ·rw[fF] at hk;subst hk;(try dsimp only);omega
   ·dsimp only;rw[vQ];refine⟨h.d,Wh ..,λx hx y hy=>?_⟩;rw[fF] at hy;subst hy;have:=h.a x hx;(try dsimp only)
    omega
 ·exact⟨h.k,by have:=h.n;omega,h.m,h.q,λk hk=>by have:=h.a k hk;omega,h.d⟩
def TS(bs:List Bn)(d:bq)(m:Int)(hm:0<=m/\m<100000):tO 15 (lI bs d m):=by have:=R6 (go:=sR bs d) tO (List.range 15) 0 ([],m) (λj b g h1 h2 h3=>Ng bs d (by simp at h2;omega) b h3) ⟨by simp,by simp,hm,by simp,by simp,by simp⟩;simpa [lI] using this
def aiU(bs:List Bn)(d:bq)(m:Int)(hm:0<=m/\m<100000):(lI bs d m).1.length<=15:=(TS bs d m hm).n
def Cl(d:bq):tO 15 (ju d):=TS _ d _ (sO d).2.2
def TR{d:bq}{k:Kp}:k∈ig d↔k∈(ju d).1:=(Ot Kp.seq _).mem_iff
def Nb(d:bq):(ig d).length<=15:=by unfold ig;rw[(Ot Kp.seq _).length_eq];exact(Cl d).n
def HE{d:bq}{k:Kp}(h:k∈ig d):wm k/\k.seq<=(ju d).2:=⟨(Cl d).k k (TR.1 h),(Cl d).q k (TR.1 h)⟩
end M
set_option maxHeartbeats 4000000
namespace M
open Go
def Vg(c:ag):∀(n:Nat) (s:ag),∀w∈Lib.splitK c 0 n s,w.length<=s.length
 |0,s,w,h=>by simp[Lib.splitK] at h;subst h;exact eP _
 |n+1,s,w,h=>by
  unfold Lib.splitK at h;split at h;·simp at h;subst h;exact eP _
  ·rcases ck.1 h with rfl|h;·simp;omega
   ·have:=Vg c n _ w h;simp at this;omega
def Vh(s c:ag):∀w∈Lib.split s c,w.length<=s.length:=Vg c _ s
def ala(c:ag)(n:Nat)(s:ag):Lib.splitK c 0 n s≠[]:=by
 cases n with
 |zero=>simp[Lib.splitK]
 |succ n=>unfold Lib.splitK;split<;>simp
def ale(s c:ag):Lib.split s c≠[]:=ala c _ s
def Aq(l:ag):aL:=⟨(Lib.cut l colon).1,(Lib.cut l colon).2.1⟩
def qy(n:Nat)(i:Nat)(g:List aL)(l:ag):List aL ⊕ (List aL×Option (Nat×ag)):=
 if (Lib.cut l colon).2.2=true then (if i+1=n/\(Lib.cut l colon).1=dN then .inr (g,some (i,(Lib.cut l colon).2.1)) else .inl (g++[Aq l])) else .inr (g,none)
def yB:List aL ⊕ (List aL×Option (Nat×ag))->Option (List aL)
 |.inl g=>some g
 |.inr x=>if x.2.isSome=true then some x.1 else none
def Up(n:Nat):∀(ls:List ag) (i:Nat) (g:List aL),i+ls.length=n->yB (dr (qy n) i ls g)=(mz ls).map λfs=>g++fs
 |[],i,g,_=>by simp[dr,yB,mz]
 |l::ls,i,g,h=>by
  have hl:i+1=n↔ls=[]:=by
   rw[dc] at h;constructor;·intro e;exact PG.1 (by omega)
   ·rintro rfl;simpa using h
  have hp:qy n i g l=if (Lib.cut l colon).2.2=true then (if ls=[]/\(Lib.cut l colon).1=dN then .inr (g,some (i,(Lib.cut l colon).2.1)) else .inl (g++[Aq l])) else .inr (g,none):=by unfold qy;simp only[hl]
  rw[dr,mz,hp];by_cases c1:(Lib.cut l colon).2.2=true
  ·rw[aA c1,aA c1];by_cases c2:ls=[]/\(Lib.cut l colon).1=dN;·rw[aA c2,aA c2];simp[yB]
   ·rw[aE c2,aE c2];simp only;have:=Up n ls (i+1) (g++[Aq l]) (by rw[dc] at h;omega);rw[this,Option.map_map];congr 1;funext fs;simp[Aq]
  ·rw[aE c1,aE c1];rfl
def R1{m:Nat}:∀{ls:List ag} {fs:List aL},(∀l∈ls,l.length<=m)->mz ls=some fs->fs.length<=ls.length/\∀f∈fs,aH f<=2*m
 |[],fs,_,h=>by simp[mz] at h;subst h;simp
 |l::ls,fs,hm,h=>by
  rw[mz] at h;split at h
  ·split at h;·simp at h;subst h;simp
   ·obtain⟨fs',h1,rfl⟩:=kY.1 h;have ih:=R1 (λx hx=>hm x (cl _ hx)) h1;refine⟨by simp;exact ih.1,λf hf=>?_⟩;rcases ck.1 hf with rfl|hf;·have:=E3 l colon;have:=hm l (bH ..);simp only[aH];omega
    ·exact ih.2 f hf
  ·cases h
def Ur{s:ag}{p:ag×List aL×ag}(h:lN s=some p):p.1.length<=s.length/\wL aH p.2.1<=10*(2*s.length+1)/\p.2.2.length<=s.length:=by
 unfold lN at h;split at h
 ·rename_i g;obtain⟨fs,h1,rfl⟩:=kY.1 h;have hc:=E3 s bu;have hm:=Vh (Lib.cut s bu).1 crlf;have hw:=R1 (m:=s.length) (λl hl=>by have:=hm l (List.mem_of_mem_tail hl);omega) h1;refine⟨?_,qP hw.2 (by have:=hw.1;have:=g.2;simp at*;omega),hc.2⟩;cases hs:Lib.split (Lib.cut s bu).1 crlf with
  |nil=>simp
  |cons a l=>have:=hm a (by rw[hs];simp);simp only[List.headD_cons];omega
 ·cases h
def akP{s:ag}{r:bF}(h:oX s=some r):aX r<=10*(2*s.length+1)+s.length:=by
 unfold oX at h;cases hp:lN s with
 |none=>rw[hp] at h;cases h
 |some p=>rw[hp] at h;obtain⟨w,_,rfl⟩:=kY.1 h;have:=Ur hp;simp only[aX];omega
def Xh(b l0:ag)(lt:List ag)(hm:∀l∈lt,l.length<=1073741824)(hl9:lt.length<=9):
  aJ (ai (ev LI TT) (aj TT) sA) [(7,.str ⟨b.toArray⟩),(9,.row .own 1 ((l0::lt).map eS)),(10,.row .own 2 []),(31,.ref 9 []),(32,.cut 9 [] 1 (lt.length+1)),(33,.int .i64 lt.length),(34,.int .i64 0)]=
  (match dr (qy lt.length) 0 lt [] with
   |.inl g=>some (.exit 0,[(7,.str ⟨b.toArray⟩),(9,.row .own 1 ((l0::lt).map eS)),(10,.row .own 2 (g.map aF)),(31,.ref 9 []),(32,.cut 9 [] 1 (lt.length+1)),(33,.int .i64 lt.length),(34,.int .i64 lt.length),(35,.bool false)])
   |.inr (g,none)=>some (.ret,[(2,.str ⟨#[]⟩),(3,.row .own 2 []),(4,.str ⟨#[]⟩),(5,.bool false),(10,.row .own 2 (g.map aF))])
   |.inr (g,some (i,v))=>some (.exit 0,[(7,.str ⟨b.toArray⟩),(9,.row .own 1 ((l0::lt).map eS)),(10,.row .own 2 (g.map aF)),(13,.str ⟨dN.toArray⟩),(14,.str ⟨v.toArray⟩),(31,.ref 9 []),(32,.cut 9 [] 1 (lt.length+1)),(33,.int .i64 lt.length),(34,.int .i64 i),(55,.bool true)])):=by
 have:=Ck (xt:=0) (f:=ai (ev LI TT) (aj TT) sA) lt (λi (g:List aL)=>[(7,.str ⟨b.toArray⟩),(9,.row .own 1 ((l0::lt).map eS)),(10,.row .own 2 (g.map aF)),(31,.ref 9 []),(32,.cut 9 [] 1 (lt.length+1)),(33,.int .i64 lt.length),(34,.int .i64 i)]) (qy lt.length)
  (λg=>[(7,.str ⟨b.toArray⟩),(9,.row .own 1 ((l0::lt).map eS)),(10,.row .own 2 (g.map aF)),(31,.ref 9 []),(32,.cut 9 [] 1 (lt.length+1)),(33,.int .i64 lt.length),(34,.int .i64 lt.length),(35,.bool false)])
  (λe=>match e with|(g,none)=>(.ret,[(2,.str ⟨#[]⟩),(3,.row .own 2 []),(4,.str ⟨#[]⟩),(5,.bool false),(10,.row .own 2 (g.map aF))])|(g,some (i,v))=>(.exit 0,[(7,.str ⟨b.toArray⟩),(9,.row .own 1 ((l0::lt).map eS)),(10,.row .own 2 (g.map aF)),(13,.str ⟨dN.toArray⟩),(14,.str ⟨v.toArray⟩),(31,.ref 9 []),(32,.cut 9 [] 1 (lt.length+1)),(33,.int .i64 lt.length),(34,.int .i64 i),(55,.bool true)]))
  (λi g=>g.length<=i) [] (by simp) (λi l g hi hl hg=>?_) (λi l g g' hi hg gY=>?_) (λg hg=>?_)
 ·simp only[mT] at this;refine this.trans ?_;cases dr (qy lt.length) 0 lt [] with
  |inl g=>rfl
  |inr e=>obtain⟨g,b⟩:=e;cases b with|none=>rfl|some x=>rfl
 ·have hw:=aO i (by omega);obtain⟨_,rfl⟩:=aK.1 hi;have e1:1+i=i+1:=by omega
  have u1:=wI lt[i] [58,32] (by have:=hm _ (bh hl);omega);have fh:IntKind.i64.wrap ((lt.length:Int)+1 - 2)=(lt.length:Int)+1 - 2:=bC (by omega) (by omega);have hlz:(g.length+1)*32<=140737488355328:=by omega
  unfold qy Aq colon;cases h1:(Lib.cut lt[i] [58,32]).2.2
  ·rw[h1] at u1;try simp at u1
   simp -implicitDefEqProofs [sA,xF,hl,hw,fh,e1,u1,h1,lv,hlz,cM]
  ·rw[h1] at u1;by_cases h2:i+1=lt.length
   ·have gV:(i:Int)=(lt.length:Int)+1 - 2:=by omega
    by_cases h3:(Lib.cut lt[i] [58,32]).1=dN
    ·rw[h3] at u1;try simp[dN] at u1
     simp -implicitDefEqProofs [sA,xF,hl,hw,fh,e1,u1,h1,eq_true h2,eq_true gV,h3,lv,hlz,cM,dN]
    ·have Fy:=h3;simp[dN] at Fy;try simp at u1
     simp -implicitDefEqProofs [sA,xF,hl,hw,fh,e1,u1,h1,eq_true h2,eq_true gV,eq_false h3,eq_false Fy,lv,hlz,cM]
   ·have gV:¬(i:Int)=(lt.length:Int)+1 - 2:=by omega
    try simp at u1
    simp -implicitDefEqProofs [sA,xF,hl,hw,fh,e1,u1,h1,eq_false h2,eq_false gV,lv,hlz,cM]
 ·unfold qy at gY;split at gY
  ·split at gY;·cases gY
   ·cases gY;simp;omega
  ·cases gY
 ·simp -implicitDefEqProofs [sA,xF]
def ZY(s:ag)(hb:s.length<=16777216):ev LI TT 243 [.str ⟨s.toArray⟩]=some (.av [.str ⟨((lN s).elim [] (λp=>p.1)).toArray⟩,.row .own 2 (((lN s).elim [] (λp=>p.2.1)).map aF),.str ⟨((lN s).elim [] (λp=>p.2.2)).toArray⟩,.bool ((lN s).isSome)],[.dead]):=by
 rw[aq (b:=sB) (rs:=[.t 2,.t 3,.t 4,.t 5]) (n:=1) rfl rfl];have u1:=wI s [13,10,13,10] (by omega);have hc:=E3 s [13,10,13,10];have u2:=abP (Lib.cut s [13,10,13,10]).1 [13,10] (by omega) (by simp);have hm:=Vh (Lib.cut s [13,10,13,10]).1 [13,10];have hne:=ale (Lib.cut s [13,10,13,10]).1 [13,10];have ep:lN s=if (Lib.cut s [13,10,13,10]).2.2=true/\((Lib.split (Lib.cut s [13,10,13,10]).1 [13,10]).length:Int)<=10 then (mz (Lib.split (Lib.cut s [13,10,13,10]).1 [13,10]).tail).map λfs=>((Lib.split (Lib.cut s [13,10,13,10]).1 [13,10]).headD [],fs,(Lib.cut s [13,10,13,10]).2.1) else none:=rfl
 rw[ep];clear ep;generalize Lib.split (Lib.cut s [13,10,13,10]).1 [13,10]=ls at u2 hm hne;generalize Lib.cut s [13,10,13,10]=p at u1 u2 hm hc;obtain⟨hd,bd,ok⟩:=p;try simp only at u1 u2 hm hc
 obtain⟨l0,lt,rfl⟩:∃l0 lt,ls=l0::lt:=by cases ls with|nil=>exact absurd rfl hne|cons a l=>exact⟨_,_,rfl⟩
 cases ok
 ·try simp at u1 u2
  simp -implicitDefEqProofs [sB,u1,u2]
 by_cases g:(((l0::lt).length:Nat):Int)<=10;rotate_left
 ·have g':10<(lt.length:Int)+1:=by simp at g;omega
  have g2:¬(lt.length:Int)+1<=10:=by omega
  try simp at u1 u2
  simp -implicitDefEqProofs [sB,u1,u2,g',g2]
 have g':¬10<(lt.length:Int)+1:=by simp at g;omega
 have g2:(lt.length:Int)+1<=10:=by omega
 have g5:(1:Int)<=(lt.length:Int)+1:=by omega
 have u3:=Xh bd l0 lt (λl hl=>by have:=hm l (cl _ hl);omega) (by omega);have u4:=Up lt.length lt 0 [] (by simp);simp only[e7,Option.map_id'] at u4;try simp at u1 u2
 cases hr:dr (qy lt.length) 0 lt [] with
 |inl fs=>rw[hr] at u3 u4;simp[yB] at u3 u4;simp -implicitDefEqProofs [sB,u1,u2,g',g2,g5,u3,<-u4]
 |inr x=>
 obtain⟨fs,x⟩:=x;cases x;·rw[hr] at u3 u4;simp[yB] at u3 u4;simp -implicitDefEqProofs [sB,u1,u2,g',g2,g5,u3,<-u4]
 rw[hr] at u3 u4;simp[yB] at u3 u4;simp -implicitDefEqProofs [sB,u1,u2,g',g2,g5,u3,<-u4];all_goals (repeat' split)<;>first|rfl|omega|(simp_all;done)|(simp_all;omega)|skip
def ZF(s:ag)(hb:s.length<=16777216):ev LI TT 204 [.str ⟨s.toArray⟩]=some (.av [.agg (dx .own ((de s).1)),.bool ((de s).2)],[.dead]):=by
 rw[aq (b:=oJ) (rs:=[.c 2 3 true 61,.t 3]) (n:=1) rfl rfl];have u1:=ZY s hb;try simp at u1
 rw[akH];have hw:=λr=>akP (s:=s) (r:=r);have gZ:=λp=>Ur (s:=s) (p:=p);have er:oX s=(lN s).bind λp=>(kU (bx 32 p.1)).map λw=>(⟨(((bn w).getD 0:Nat):Int),p.2.1,p.2.2⟩:bF):=rfl;rw[er] at hw⊢;clear er;generalize lN s=po at u1 hw gZ⊢;cases po with
 |none=>
  have u2:=tZ [] 32 (by simp);try simp at u1 u2
  simp -implicitDefEqProofs [oJ,u1,u2,cz]
 |some p=>
 obtain⟨f,fs,b⟩:=p;have hq:=gZ _ rfl;simp only at hq;have u2:=tZ f 32 (by omega);have hm:=pE 32 f;simp only[gw] at hw⊢;rcases eR:bx 32 f with _|⟨w0,_|⟨w1,_|⟨w2,_|⟨w3,ws⟩⟩⟩⟩;·exact absurd eR (zf 32 f)
 ·rw[eR] at u2;simp at u1 u2;simp -implicitDefEqProofs [oJ,u1,u2,kU,cz]
 ·rw[eR] at u2;simp at u1 u2;simp -implicitDefEqProofs [oJ,u1,u2,kU,cz]
 rotate_left
 ·rw[eR] at u2;have hn:¬((ws.length:Int)+1+1+1+1=3):=by omega
  simp at u1 u2;simp -implicitDefEqProofs [oJ,u1,u2,kU,cz,hn]
 rw[eR] at u2 hw;have hw1:=hm w1 (by rw[eR];simp);have u3:=tV w1 (by omega);have hr:=hw ⟨(((bn w1).getD 0:Nat):Int),fs,b⟩ rfl;have u4:=Qn ⟨(((bn w1).getD 0:Nat):Int),fs,b⟩ (by omega);simp only[kU,cq];obtain⟨n,hn⟩:∃n,(((bn w1).getD 0:Nat):Int)=n:=⟨_,rfl⟩;rw[hn] at u3 u4⊢;by_cases g0:s=[];·subst g0;simp at u1 u2 u3 u4;simp -implicitDefEqProofs [oJ,u1,u2,u3,cz]
 by_cases g:fW ⟨n,fs,b⟩=s;·rw[g] at u4;simp at u1 u2 u3 u4;simp -implicitDefEqProofs [oJ,u1,u2,u3,u4,g,g0,cz]
 simp at u1 u2 u3 u4;simp -implicitDefEqProofs [oJ,u1,u2,u3,u4,g,g0,cz];all_goals (repeat' split)<;>first|rfl|omega|(simp_all;done)|(simp_all;omega)|skip
end M
set_option maxHeartbeats 4000000
namespace M
open Go
def Yp(s:ag)(hb:s.length<=1073741824):
  aJ (ai (ev LI TT) (aj TT) qJ) [(0,.str ⟨s.toArray⟩),(4,.row .own 1 []),(5,.int .i64 0),(6,.int .i64 1)]=
  (match pY s with
   |.inl g=>some (.exit 0,[(0,.str ⟨s.toArray⟩),(4,.row .own 1 (g.1.map eS)),(5,.int .i64 g.2),(6,.int .i64 ((s.length - 1:Nat)+1:Nat)),(12,.bool false)])
   |.inr g=>some (.ret,[(2,.row .own 1 (g.1.map eS)),(3,.int .i64 g.2),(4,.dead)])):=by
 have:=Ck (xt:=0) (f:=ai (ev LI TT) (aj TT) qJ) (s.drop 1) (λi (g:List ag×Nat)=>[(0,.str ⟨s.toArray⟩),(4,.row .own 1 (g.1.map eS)),(5,.int .i64 g.2),(6,.int .i64 ((i+1:Nat):Int))]) (λj=>gX s (j+1))
  (λg=>[(0,.str ⟨s.toArray⟩),(4,.row .own 1 (g.1.map eS)),(5,.int .i64 g.2),(6,.int .i64 ((s.length - 1:Nat)+1:Nat)),(12,.bool false)])
  (λg=>(.ret,[(2,.row .own 1 (g.1.map eS)),(3,.int .i64 g.2),(4,.dead)]))
  (λi g=>g.1.length<=i/\g.2<=i+1) ([],0) (by simp) (λi b g hi hl hg=>?_) (λi b g g' hi hg gY=>?_) (λg hg=>?_)
 ·simp only[mT] at this;refine this.trans ?_;unfold pY;cases dr (λj=>gX s (j+1)) 0 (s.drop 1) ([],0) with
  |inl g=>rfl
  |inr e=>rfl
 ·simp only[wh] at hl;have nv:i+1<s.length:=by omega
  have hi2:s[i+1]=b:=by rw[pK] at hi;have:=(aK.1 hi);obtain⟨_,h⟩:=this;rw[<-h];congr 1;omega
  have w8:i<s.length:=by omega
  have hw:IntKind.i64.wrap ((i:Int)+1+1)=(i:Int)+1+1:=bC (by omega) (by omega);have fh:IntKind.i64.wrap (i:Int)=i:=bC (by omega) (by omega);have oz:(0:Int)<=(i:Int)+1:=by omega
  have hlz:(g.1.length+1)*16<=140737488355328:=by omega
  have hls:((i:Int)+1<s.length):=by omega
  have ht:s[i]?=some s[i]:=cv w8;have hle:(i:Int)<=s.length:=by omega
  unfold gX;simp only[Nat.add_sub_cancel,ht];by_cases g1:b=10;rotate_left;·have dJ:¬(b.toNat:Int)=10:=λh=>g1 (tI.1 (by show b.toNat=10;omega));simp -implicitDefEqProofs [qJ,vF,nv,hls,hi2,hw,fh,oz,g1,dJ,lv]
  subst g1;by_cases g2:s[i]=13;rotate_left;·have oy:¬((s[i]).toNat:Int)=13:=λh=>g2 (tI.1 (by show (s[i]).toNat=13;omega));simp -implicitDefEqProofs [qJ,vF,nv,hls,hi2,hw,fh,oz,g2,oy,w8,lv]
  by_cases g3:g.2+1<=i+1;rotate_left
  ·have jo:(i:Int)<g.2:=by omega
   simp -implicitDefEqProofs [qJ,vF,nv,hls,hi2,hw,fh,oz,g2,g3,jo,w8,lv]
  have jo:¬(i:Int)<g.2:=by omega
  have Sg:(g.2:Int)<=i:=by omega
  have g5:1<=i+1:=by omega
  rw[zJ];obtain⟨Y,hY⟩:∃Y,(s.drop g.2).take (i - g.2)=Y:=⟨_,rfl⟩;rw[hY];cases Y with
  |nil=>simp -implicitDefEqProofs [qJ,vF,nv,hls,hi2,hw,fh,oz,g2,g3,jo,Sg,hY,g5,w8,lv,hle,Lib.extract_mk]
  |cons y Y=>simp -implicitDefEqProofs [qJ,vF,nv,hls,hi2,hw,fh,oz,g2,g3,jo,Sg,hY,g5,w8,lv,hle,hlz,cM,Lib.extract_mk]
 ·unfold gX at gY;split at gY
  ·split at gY;·cases gY
   ·cases gY;simp;omega
  ·cases gY;omega
 ·have h0:¬(((s.length - 1:Nat):Int)+1<s.length):=by omega
  simp only[wh];simp -implicitDefEqProofs [qJ,vF,h0]
def abv(s:ag)(hb:s.length<=1073741824):ev LI TT 183 [.str ⟨s.toArray⟩]=some (.av [.row .own 1 ((iH s).map eS),.int .i64 (lB s)],[.dead]):=by
 rw[aq (b:=Ds) (rs:=[.t 2,.t 3]) (n:=1) rfl rfl];have u1:=Yp s hb;try simp at u1
 unfold iH lB;cases hr:pY s with
 |inl g=>rw[hr] at u1;simp at u1;simp -implicitDefEqProofs [Ds,u1]
 |inr g=>
 rw[hr] at u1;simp at u1;simp -implicitDefEqProofs [Ds,u1];all_goals (repeat' split)<;>first|rfl|omega|(simp_all;done)|(simp_all;omega)|skip
def EZ(i:Nat)(_:Unit)(x:UInt8×UInt8):Unit ⊕ Nat:=if rJ x=true then .inr i else .inl ()
def Re:∀(l:List (UInt8×UInt8)) (i:Nat),dr EZ i l ()=match cG rJ i l with
  |some (k,_)=>.inr k
  |none=>.inl ()
 |[],_=>rfl
 |x::l,i=>by
  rw[dr,cG];unfold EZ;cases h:rJ x;·simp only[fS,di];exact Re l (i+1)
  ·simp
def Yn(ls:List ag)(i:Nat)(hi:i<ls.length)(fs:List aL)(hm:ls[i].length<=1073741824)(hf:fs.length<=1073741824):
  aJ (ai (ev LI TT) (aj TT) tf) [(0,.row .af 1 (ls.map eS)),(3,.row .own 2 (fs.map aF)),(4,.int .i64 i),(5,.int .i64 0)]=
  (match uh ls[i] with
   |none=>some (.exit 2,[(0,.row .af 1 (ls.map eS)),(3,.row .own 2 (fs.map aF)),(4,.int .i64 i),(5,.int .i64 (ls[i].zip (ls[i].drop 1)).length),(21,.bool false)])
   |some (k,_)=>some (.exit 2,[(0,.row .af 1 (ls.map eS)),(3,.row .own 2 ((fs++ia ls[i]).map aF)),(4,.int .i64 i)])):=by
 have:=Ck (xt:=2) (f:=ai (ev LI TT) (aj TT) tf) (ls[i].zip (ls[i].drop 1)) (λk (_:Unit)=>[(0,.row .af 1 (ls.map eS)),(3,.row .own 2 (fs.map aF)),(4,.int .i64 i),(5,.int .i64 k)]) EZ
  (λ_=>[(0,.row .af 1 (ls.map eS)),(3,.row .own 2 (fs.map aF)),(4,.int .i64 i),(5,.int .i64 (ls[i].zip (ls[i].drop 1)).length),(21,.bool false)])
  (λk=>(.exit 2,[(0,.row .af 1 (ls.map eS)),(3,.row .own 2 ((fs++(if ls[i].take k=dN then [] else [(⟨ls[i].take k,ls[i].drop (k+2)⟩:aL)])).map aF)),(4,.int .i64 i)]))
  (λ_ _=>True) () trivial (λk b _ hk hl _=>?_) (λ_ _ _ _ _ _ _=>trivial) (λ_ _=>?_)
 ·refine this.trans ?_;rw[Re];unfold ia uh;cases cG rJ 0 (ls[i].zip (ls[i].drop 1)) with
  |none=>rfl
  |some x=>rfl
 ·have hlz:k+1<ls[i].length:=by simp at hl;omega
  have hk1:k<ls[i].length:=by omega
  obtain⟨q1,q2⟩:=PC.1 hk;obtain⟨_,h1⟩:=aK.1 q1;rw[pK,qS] at q2;obtain⟨_,h2⟩:=aK.1 q2;clear q1 q2;have oz:(0:Int)<=(k:Int)+1:=by omega
  have LA:(0:Int)<=(k:Int)+2:=by omega
  have Sz:((k:Int)+2).toNat=k+2:=by omega
  have htk:(ls[i].drop (k+2)).take (ls[i].length - (k+2))=ls[i].drop (k+2):=vS (by simp);have hw:=aO k (by omega);have fh:IntKind.i64.wrap ((k:Int)+2)=k+2:=bC (by omega) (by omega);have hla:(fs.length+1)*32<=140737488355328:=by omega
  have hls:((k:Int)+1<ls[i].length):=by omega
  have hle:(k:Int)<=ls[i].length:=by omega
  have hle2:(k:Int)+2<=ls[i].length:=by omega
  obtain⟨b1,b2⟩:=b;simp only at h1 h2;unfold EZ rJ;simp only;by_cases g1:b1=58;rotate_left;·have dJ:¬(b1.toNat:Int)=58:=λh=>g1 (tI.1 (by show b1.toNat=58;omega));simp -implicitDefEqProofs [tf,y6,hi,hk1,hls,h1,hw,oz,g1,dJ,lv]
  by_cases g2:b2=32;rotate_left;·have oy:¬(b2.toNat:Int)=32:=λh=>g2 (tI.1 (by show b2.toNat=32;omega));simp -implicitDefEqProofs [tf,y6,hi,hk1,hlz,hls,h1,h2,hw,oz,LA,g1,g2,oy,lv]
  subst g1 g2;by_cases g3:ls[i].take k=dN;·have jo:ls[i].take k=[99,111,110,116,101,110,116,45,108,101,110,103,116,104]:=g3;simp -implicitDefEqProofs [tf,y6,Dr,hi,hk1,hlz,hls,h1,h2,hw,oz,LA,Sz,htk,fh,g3,jo,lv,hle,hle2,Lib.extract_mk,dN]
  ·have jo:¬ls[i].take k=[99,111,110,116,101,110,116,45,108,101,110,103,116,104]:=g3;simp -implicitDefEqProofs [tf,y6,Dr,hi,hk1,hlz,hls,h1,h2,hw,oz,LA,Sz,htk,fh,g3,jo,lv,hle,hle2,hla,cM,Lib.extract_mk]
 ·have hlen:(ls[i].zip (ls[i].drop 1)).length=ls[i].length - 1:=by simp
  have h0:¬(((ls[i].length - 1:Nat):Int)+1<ls[i].length):=by omega
  have hw:=aO (ls[i].length - 1) (by omega);simp only[hlen];simp -implicitDefEqProofs [tf,y6,hi,h0,hw]
def Yo(ls:List ag)(hm:∀l∈ls,l.length<=1073741824)(hb:ls.length<=1073741824):aJ (ai (ev LI TT) (aj TT) y8) [(0,.row .af 1 (ls.map eS)),(3,.row .own 2 (([]).map aF)),(4,.int .i64 0)]=some (.exit 0,[(0,.row .af 1 (ls.map eS)),(3,.row .own 2 ((((ls).flatMap ia)).map aF)),(4,.int .i64 (ls).length),(11,.bool false)]):=by
 refine sM (f:=ai (ev LI TT) (aj TT) y8) (ls) ia (λi out=>[(0,.row .af 1 (ls.map eS)),(3,.row .own 2 ((out).map aF)),(4,.int .i64 i)]) (λout=>[(0,.row .af 1 (ls.map eS)),(3,.row .own 2 ((out).map aF)),(4,.int .i64 (ls).length),(11,.bool false)]) (λi b out hi hl hout=>?_) (λout hout=>?_)
 ·have hw:=aO i (by first|omega|(simp at hl;omega));obtain⟨_,rfl⟩:=aK.1 hi;have hlo:out.length<=i:=by rw[hout];exact Fk _ (λb=>by unfold ia;split<;>(try split)<;>simp) _ _
  have u1:=Yn ls i hl out (hm _ (bh hl)) (by omega);cases hc:uh ls[i] with
  |none=>
   rw[hc] at u1;have hz:ia ls[i]=[]:=by unfold ia;rw[hc]
   try simp at u1
   simp -implicitDefEqProofs [y8,I0,hl,hw,u1,hz]
  |some x=>
  obtain⟨k,x⟩:=x;rw[hc] at u1;try simp at u1
  simp -implicitDefEqProofs [y8,I0,hl,hw,u1]
 ·simp -implicitDefEqProofs [y8,I0]
def abu(ls:List ag)(hm:∀l∈ls,l.length<=1073741824)(hb:ls.length<=1073741824):ev LI TT 184 [.row .af 1 (ls.map eS)]=some (.row .own 2 ((ls.flatMap ia).map aF),[.dead]):=by
 rw[aq (b:=I1) (rs:=[.t 2]) (n:=1) rfl rfl];have u1:=Yo ls hm hb;try simp at u1
 simp -implicitDefEqProofs [I1,u1,Dr];all_goals (repeat' split)<;>first|rfl|omega|(simp_all;done)|(simp_all;omega)|skip
def abe(s:ag)(hb:s.length<=16777216):ev LI TT 120 [.str ⟨s.toArray⟩]=some (.av [.agg (dx .own ((de s).1)),.bool ((de s).2)],[.dead]):=by
 rw[aq (b:=o9) (rs:=[.c 2 3 true 61,.t 3]) (n:=1) rfl rfl];have u1:=abv s (by omega);try simp at u1
 rw[akI];have hw:=λr=>akT (s:=s) (r:=r);have hh:=SR s;have LX:∀l∈iH s,l.length<=16777216:=λl hl=>by have:=eZ (w:=wS) hl;simp only[wS] at this;omega
 have si:=aT (w:=wS) (iH s);have er:oY s=(if 0<=lB s/\iH s≠[] then (kU (bx 32 ((iH s).headD []))).map λw=>(⟨(((bn w).getD 0:Nat):Int),(iH s).tail.flatMap ia,s.drop (lB s).toNat⟩:bF) else none):=rfl;rw[er] at hw⊢;clear er;generalize iH s=ls at u1 hw hh LX si⊢;generalize lB s=n at u1 hw hh⊢;by_cases g1:0<=n;rotate_left
 ·have dJ:n<0:=by omega
  simp -implicitDefEqProofs [o9,u1,g1,dJ,cz]
 have dJ:¬n<0:=by omega
 cases ls with
 |nil=>simp at u1;simp -implicitDefEqProofs [o9,u1,g1,dJ,cz]
 |cons l0 lt=>
 have hl0:=LX l0 (by simp);have u2:=wH l0 (by omega);have hm:=pE 32 l0;simp only[List.headD_cons,List.tail_cons] at hw⊢;have g2:0<=n/\l0::lt≠[]:=⟨g1,by simp⟩;have g3:¬((lt.length:Int)+1=0):=by omega
 rw[aA g2] at hw⊢;rcases eR:bx 32 l0 with _|⟨w0,_|⟨w1,_|⟨w2,_|⟨w3,ws⟩⟩⟩⟩;·exact absurd eR (zf 32 l0)
 ·rw[eR] at u2;simp at u1 u2;simp -implicitDefEqProofs [o9,u1,u2,kU,cz,dJ,g3]
 ·rw[eR] at u2;simp at u1 u2;simp -implicitDefEqProofs [o9,u1,u2,kU,cz,dJ,g3]
 rotate_left
 ·rw[eR] at u2;have hn:¬((ws.length:Int)+1+1+1+1=3):=by omega
  simp at u1 u2;simp -implicitDefEqProofs [o9,u1,u2,kU,cz,hn,dJ,g3]
 rw[eR] at u2 hw;have hw1:=hm w1 (by rw[eR];simp);have u3:=tW w1 (by omega);have u5:=abu lt (λl hl=>by have:=LX l (cl _ hl);omega) (by simp at si;omega);have hr:=hw ⟨(((bn w1).getD 0:Nat):Int),lt.flatMap ia,s.drop n.toNat⟩ rfl;have u4:=QK ⟨(((bn w1).getD 0:Nat):Int),lt.flatMap ia,s.drop n.toNat⟩ (by omega);have hn2:n<=s.length:=hh.2.1;have S4:(lt.map eS).take lt.length=lt.map eS:=vS (by simp);have w9:(1:Int)<=(lt.length:Int)+1:=by omega
 have htk:(s.drop n.toNat).take (s.length - n.toNat)=s.drop n.toNat:=vS (by simp);simp only[kU,cq];obtain⟨st,hst⟩:∃st,(((bn w1).getD 0:Nat):Int)=st:=⟨_,rfl⟩;rw[hst] at u3 u4⊢;by_cases g:fW ⟨st,lt.flatMap ia,s.drop n.toNat⟩=s;·rw[g] at u4;simp at u1 u2 u3 u4 u5;simp -implicitDefEqProofs [o9,Iv,Iw,u1,u2,u3,u4,u5,g,g1,dJ,g3,hn2,w9,htk,S4,cz,Lib.extract_mk]
 simp at u1 u2 u3 u4 u5;simp -implicitDefEqProofs [o9,u1,u2,u3,u4,u5,g,g1,dJ,g3,hn2,w9,htk,S4,cz,Lib.extract_mk,Iv,Iw];all_goals (repeat' split)<;>first|rfl|omega|(simp_all;done)|(simp_all;omega)|skip
end M
set_option maxHeartbeats 4000000
namespace M
open Go
def ND(s:ag):aX (de s).1<=800:=by
 cases h:(de s).2;·have:de s=(cz,false):=UE h;rw[this];decide
 ·exact UK (UF h).1
def apQ(fs:List aL):wL wS (gN fs)<=(wL aH fs+1)*(wL aH fs+1):=by refine qP (λw hw=>?_) (OQ fs);unfold gN at hw;obtain⟨x,hx,rfl⟩:=bw.1 hw;have h1:=DS _ x hx;have h2:=rU fs gH;simp only[wS,cy,dH];omega
def VP(s:ag):wL wS (gN (de s).1.fields)<=641601:=by
 have h1:=ND s;have h2:=apQ (de s).1.fields;have h3:wL aH (de s).1.fields+1<=801:=by have:aX (de s).1=wL aH (de s).1.fields+(de s).1.body.length:=rfl;omega
 exact e8 h2 (Nat.mul_le_mul h3 h3)
def K5(s:ag):(ga s).1.length<=s.length/\(ga s).2.length<=s.length:=by
 unfold ga;cases h:cP 10 s with
 |none=>simp
 |some p=>have:=uk h;simp only[vV];omega
def Rn(s:ag):∃b,Lib.cut s [10]=((ga s).1,(ga s).2,b):=by
 rw[E4];unfold ga;cases h:cP 10 s with
 |none=>exact⟨_,rfl⟩
 |some p=>exact⟨_,rfl⟩
def Vu:∀(n:Nat) (s:ag),(eE n s).1.length=n/\(∀v∈(eE n s).1,v.length<=s.length)/\(eE n s).2.length<=s.length
 |0,s=>by simp[eE]
 |n+1,s=>by
  have h1:=K5 s;have ih:=Vu n (ga s).2;rw[eE];refine⟨by simp[ih.1],λv hv=>?_,by simp only;omega⟩;rcases ck.1 hv with rfl|hv;·exact h1.1
  ·have:=ih.2.1 v hv;omega
def PX(s p:ag)(tt:Int)(n:Nat)(hn:n<=4):∀(m i:Nat) (g:List ag) (t:ag),i+m=n->g.length=i->t.length<=16777216->
  aJ (ai (ev LI TT) (aj TT) Bj) [(0,.str ⟨s.toArray⟩),(2,.ptr .own (bA .own dw)),(5,.str ⟨t.toArray⟩),(12,.ptr .own (bA .own ⟨p,[],g,cz,tt⟩)),(60,.int .i64 n),(61,.int .i64 i)]=some (.exit 0,[(0,.str ⟨s.toArray⟩),(2,.ptr .own (bA .own dw)),(5,.str ⟨((eE m t).2).toArray⟩),(12,.ptr .own (bA .own ⟨p,[],g++(eE m t).1,cz,tt⟩)),(60,.int .i64 n),(61,.int .i64 n),(62,.bool false)])
 |0,i,g,t,hi,hg,ht=>by
  have:i=n:=by omega
  subst this;rw[dV];simp -implicitDefEqProofs [Bj,Mg,eE,cz,dw]
 |m+1,i,g,t,hi,hg,ht=>by
  have hl:i<n:=by omega
  have hw:=aO i (by omega);obtain⟨b,hb⟩:=Rn t;have u1:=wI t [10] (by omega);rw[hb] at u1;have hlz:(g.length+1)*16<=140737488355328:=by omega
  have hc:=K5 t
  have hstep:ai (ev LI TT) (aj TT) Bj [(0,.str ⟨s.toArray⟩),(2,.ptr .own (bA .own dw)),(5,.str ⟨t.toArray⟩),(12,.ptr .own (bA .own ⟨p,[],g,cz,tt⟩)),(60,.int .i64 n),(61,.int .i64 i)]=some (.normal,[(0,.str ⟨s.toArray⟩),(2,.ptr .own (bA .own dw)),(5,.str ⟨((ga t).2).toArray⟩),(12,.ptr .own (bA .own ⟨p,[],g++[(ga t).1],cz,tt⟩)),(60,.int .i64 n),(61,.int .i64 ((i+1:Nat):Int))]):=by
   try simp at u1
   simp -implicitDefEqProofs [Bj,Mg,cz,dw,hl,hw,u1,hlz,cM]
  rw[dV,hstep];have ih:=PX s p tt n hn m (i+1) (g++[(ga t).1]) (ga t).2 (by omega) (by simp;omega) (by omega);rw[mV] at ih;exact ih
def ZB(s:ag)(hb:s.length<=16777216):ev LI TT 143 [.str ⟨s.toArray⟩]=some (.av [.agg (bA .own ((ij s).1)),.bool ((ij s).2)],[.dead]):=by
 rw[aq (b:=oI) (rs:=[.c 2 7 true 63,.t 3]) (n:=1) rfl rfl];have u1:=wI s [10] (by omega);obtain⟨cb,hcb⟩:=Rn s;rw[hcb] at u1;have hc:=K5 s;rw[aju];have eo:vj s=(lV (bx 32 (ga s).1)).bind λw=>(bn w.2.1).bind λt=>(bn w.2.2).bind λn=>Cz w.1 t n (ga s).2:=rfl;rw[eo];clear eo hcb;generalize ga s=ln at u1 hc⊢;obtain⟨l,b⟩:=ln;simp only at u1 hc⊢;have u2:=tZ l 32 (by omega);have hm:=pE 32 l;by_cases h4:(bx 32 l).length=4;rotate_left
 ·have rV:¬(((bx 32 l).length:Int)=4):=by omega
  have AU:lV (bx 32 l)=none:=by unfold lV;split;(rename_i e;rw[e] at h4;simp at h4);rfl
  rw[AU];try simp at u1 u2
  simp -implicitDefEqProofs [oI,u1,u2,rV,dw,cz]
 obtain⟨w0,w1,w2,w3,hw⟩:=Hx h4;rw[hw] at u2 hm⊢;have FH:=hm w1 (by simp);have u3:=tV w2 (by have:=hm w2 (by simp);omega);have u4:=tV w3 (by have:=hm w3 (by simp);omega);simp only[lV,gw];cases h2:bn w2 with
 |none=>rw[h2] at u3;simp at u1 u2 u3 u4;simp -implicitDefEqProofs [oI,u1,u2,u3,u4,dw,cz]
 |some t=>
 cases h3:bn w3 with
 |none=>rw[h2] at u3;rw[h3] at u4;simp at u1 u2 u3 u4;simp -implicitDefEqProofs [oI,u1,u2,u3,u4,dw,cz]
 |some n=>
 rw[h2] at u3;rw[h3] at u4;simp only[gw];unfold Cz;by_cases g:n<=4;rotate_left
 ·have g':4<(n:Int):=by omega
  simp at u1 u2 u3 u4;simp -implicitDefEqProofs [oI,u1,u2,u3,u4,g,g',dw,cz]
 have g':¬4<(n:Int):=by omega
 have u5:=PX s w1 (t:Nat) n g n 0 [] b (by omega) rfl (by omega);have hv:=Vu n b;have u6:=ZF (eE n b).2 (by omega);have hrw:=ND (eE n b).2;have hvw:=VP (eE n b).2;have hrf:aX (de (eE n b).2).1=wL aH (de (eE n b).2).1.fields+(de (eE n b).2).1.body.length:=rfl;have u7:=Qt (de (eE n b).2).1.fields (by omega);have hvs:wL wS (eE n b).1<=4*(16777216+1):=qP (λv eM=>by have:=hv.2.1 v eM;simp only[wS];omega) (by omega);have u8:=ZC ⟨w1,gN (de (eE n b).2).1.fields,(eE n b).1,(de (eE n b).2).1,(t:Nat)⟩ (by simp only[aW];omega);rw[aA g];generalize gN (de (eE n b).2).1.fields=vo at u7 u8⊢;generalize de (eE n b).2=rr at u6 u7 u8⊢;obtain⟨⟨NK,NH,Nx⟩,UL⟩:=rr;simp only at u6 u7 u8⊢;generalize eE n b=tv at u5 u6 u8⊢;obtain⟨vs,rest⟩:=tv;simp only[dw,cz,e7] at u5 u6 u8⊢;simp at u1 u2 u3 u4 u5 u6 u7;cases UL;·simp -implicitDefEqProofs [oI,u1,u2,u3,u4,u5,u6,u7,g']
 by_cases gt:fm ⟨w1,vo,vs,⟨NK,NH,Nx⟩,(t:Int)⟩=s;·rw[gt] at u8;simp at u8;simp -implicitDefEqProofs [oI,u1,u2,u3,u4,u5,u6,u7,u8,g',gt]
 simp at u8;simp -implicitDefEqProofs [oI,u1,u2,u3,u4,u5,u6,u7,u8,g',gt,eq_false gt];all_goals (repeat' split)<;>first|rfl|omega|(simp_all;done)|(simp_all;omega)|skip
def ko:Nat->ag->Option (List ag×ag)
 |0,s=>some ([],s)
 |n+1,s=>(cP 10 s).bind λp=>(ko n p.2).map λq=>(p.1::q.1,q.2)
def Vs:∀(n:Nat) (s:ag) (q:List ag×ag),ko n s=some q->q.1.length=n/\(∀v∈q.1,v.length<=s.length)/\q.2.length<=s.length/\s.drop (s.length - q.2.length)=q.2
 |0,s,q,h=>by simp[ko] at h;subst h;simp
 |n+1,s,q,h=>by
  rw[ko] at h;obtain⟨p,h1,h2⟩:=kX.1 h;obtain⟨r,h3,rfl⟩:=kY.1 h2;have hd:=uk h1;have ih:=Vs n p.2 r h3;refine⟨by simp[ih.1],λv hv=>?_,by simp only;omega,?_⟩
  ·rcases ck.1 hv with rfl|hv;·omega
   ·have:=ih.2.1 v hv;omega
  ·simp only;have e:s.length - r.2.length=(s.length - p.2.length)+(p.2.length - r.2.length):=by omega
   rw[e,<-En,hd.2.1];exact ih.2.2.2
def Vr(r:ag):∀(l:List ag),(∀v∈l,bP 10 v)->ko l.length (jc l++r)=some (l,r)
 |[],_=>rfl
 |v::l,h=>by
  have e:jc (v::l)++r=v++10::(jc l++r):=by simp[jc]
  rw[e,dc,ko,K4 v _ (h v (bH ..))];simp only[gw];rw[Vr r l λx hx=>h x (cl _ hx)];rfl
noncomputable def yy(s:ag):Option Ob:=(cP 10 s).bind λc=>(lV (bx 32 c.1)).bind λw=>(ko (min ((bn w.2.2).getD 0) 4) c.2).map λq=>⟨w.1,gN (de q.2).1.fields,q.1,(de q.2).1,(((bn w.2.1).getD 0:Nat):Int)⟩
def ajx:yy []=none:=by simp[yy,cP]
def ajw{o:Ob}(ho:cX o=true):yy (mK o)=some o:=by
 have h:=Cy ho;unfold yy mK;rw[K4 _ _ (Ua h)];simp only[gw];rw[Ub h];have h0:=h.t0;have h1:=h.t1;have hl:=h.len;have h4:=h.n4
 have hn:bn (cH o.t)=some o.t.toNat:=by
  have e:o.t=((o.t.toNat:Nat):Int):=by omega
  rw[e,T7 _ (by omega)];simp;omega
 have hd:bn (bg o.values.length)=some o.values.length:=mJ.2 ⟨by omega,rfl⟩;simp only[lV,gw,hn,hd,vV];rw[kW (by omega),Vr (gm o.resp) o.values (VL h)];have h2:de (gm o.resp)=(o.resp,true):=UD (cand:=oX) (λr h=>NJ h) h.resp;simp only[cq,h2];have ht:((o.t.toNat:Nat):Int)=o.t:=by omega
 rw[ht,<-h.VO]
def ajv(s:ag):ij s=match yy s with
  |some o=>if fm o=s then (o,true) else (dw,false)
  |none=>(dw,false):=Uc (λo h=>ajw h) ajx s
end M
set_option maxHeartbeats 4000000
namespace M
open Go
def PY(s p:ag)(tt:Int)(n:Nat)(hn:n<=1000000)(hs:s.length<=16777216):∀(m i:Nat) (g:List ag) (t:ag),i+m=min n 4->g.length=i->t.length<=s.length->s.drop (s.length - t.length)=t->
  (∀q,ko m t=some q->aJ (ai (ev LI TT) (aj TT) mQ) [(0,.str ⟨s.toArray⟩),(2,.ptr .own (bA .own dw)),(5,.int .i64 ((s.length - t.length:Nat):Int)),(9,.int .i64 n),(11,.ptr .own (bA .own ⟨p,[],g,cz,tt⟩)),(12,.int .i64 i)]=some (.exit 0,[(0,.str ⟨s.toArray⟩),(2,.ptr .own (bA .own dw)),(5,.int .i64 ((s.length - q.2.length:Nat):Int)),(9,.int .i64 n),(11,.ptr .own (bA .own ⟨p,[],g++q.1,cz,tt⟩)),(12,.int .i64 (min n 4:Nat)),(59,.bool false)]))/\
  (ko m t=none->∃g' j,aJ (ai (ev LI TT) (aj TT) mQ) [(0,.str ⟨s.toArray⟩),(2,.ptr .own (bA .own dw)),(5,.int .i64 ((s.length - t.length:Nat):Int)),(9,.int .i64 n),(11,.ptr .own (bA .own ⟨p,[],g,cz,tt⟩)),(12,.int .i64 i)]=some (.exit 0,[(0,.str ⟨s.toArray⟩),(2,.ptr .own (bA .own dw)),(5,.int .i64 (-1)),(9,.int .i64 n),(11,.ptr .own (bA .own ⟨p,[],g',cz,tt⟩)),(12,.int .i64 j),(59,.bool false)]))
 |0,i,g,t,hi,hg,ht,hd=>by
  refine⟨λq hq=>?_,λh=>by simp[ko] at h⟩;simp[ko] at hq;subst hq;have:i=min n 4:=by omega
  rw[<-this];rw[dV];by_cases g1:(i:Int)<n
  ·have g2:¬(i:Int)<4:=by omega
   have dJ:i<n:=by omega
   have oy:¬i<4:=by omega
   simp -implicitDefEqProofs [mQ,s8,cz,dw,g1,g2,dJ,oy]
  ·have dJ:¬i<n:=by omega
   simp -implicitDefEqProofs [mQ,s8,cz,dw,g1,dJ]
 |m+1,i,g,t,hi,hg,ht,hd=>by
  have g1:i<n:=by omega
  have g2:i<4:=by omega
  have dJ:(i:Int)<n:=by omega
  have oy:(i:Int)<4:=by omega
  have hw:=aO i (by omega);have u1:=EO s (s.length - t.length) (by omega) (by omega);unfold yf ye at u1;rw[hd] at u1;have hlz:(g.length+1)*16<=140737488355328:=by omega
  have iG:(0:Int)<=((s.length - t.length:Nat):Int):=by omega
  obtain⟨e,he⟩:∃e,s.length - t.length=e:=⟨_,rfl⟩;rw[ko];cases hc:cP 10 t with
  |none=>
   refine⟨λq hq=>by simp at hq,λ_=>⟨g++[[]],(i+1:Nat),?_⟩⟩;rw[hc] at u1;rw[he] at u1 iG⊢
   have hstep:ai (ev LI TT) (aj TT) mQ [(0,.str ⟨s.toArray⟩),(2,.ptr .own (bA .own dw)),(5,.int .i64 (e:Int)),(9,.int .i64 n),(11,.ptr .own (bA .own ⟨p,[],g,cz,tt⟩)),(12,.int .i64 i)]=some (.normal,[(0,.str ⟨s.toArray⟩),(2,.ptr .own (bA .own dw)),(5,.int .i64 (-1)),(9,.int .i64 n),(11,.ptr .own (bA .own ⟨p,[],g++[[]],cz,tt⟩)),(12,.int .i64 ((i+1:Nat):Int))]):=by
    try simp at u1
    simp -implicitDefEqProofs [mQ,s8,cz,dw,g1,g2,dJ,oy,hw,u1,hlz,cM]
   rw[dV,hstep];show aJ _ _=_;rw[dV];by_cases g3:i+1<n
   ·have jo:(i:Int)+1<n:=by omega
    by_cases g4:i+1<4
    ·have mB:(i:Int)+1<4:=by omega
     simp -implicitDefEqProofs [mQ,s8,cz,dw,g3,jo,g4,mB]
    ·have mB:¬(i:Int)+1<4:=by omega
     simp -implicitDefEqProofs [mQ,s8,cz,dw,g3,jo,g4,mB]
   ·have jo:¬(i:Int)+1<n:=by omega
    simp -implicitDefEqProofs [mQ,s8,cz,dw,g3,jo]
  |some c=>
   obtain⟨l,r⟩:=c;have bu:=uk hc;simp only at bu;rw[hc] at u1;simp only at u1;have e2:(s.length - t.length)+(t.length - r.length)=s.length - r.length:=by omega
   have aht:s.drop (s.length - r.length)=r:=by rw[<-e2,<-En,hd];exact bu.2.1
   have ih:=PY s p tt n hn hs m (i+1) (g++[l]) r (by omega) (by simp;omega) (by omega) aht;obtain⟨f,hf⟩:∃f,s.length - r.length=f:=⟨_,rfl⟩
   have u2:ev LI TT 116 [.str ⟨s.toArray⟩,.int .i64 (e:Int)]=some (.av [.str ⟨l.toArray⟩,.int .i64 (f:Int)],[.dead,.dead]):=by
    rw[he] at u1;have:(s.length:Int) - r.length=(f:Int):=by omega
    first|exact u1|(simp at u1⊢;rw[u1];simp;omega)|(rw[u1];simp;omega)
   rw[he] at iG⊢;rw[hf] at ih
   have hstep:ai (ev LI TT) (aj TT) mQ [(0,.str ⟨s.toArray⟩),(2,.ptr .own (bA .own dw)),(5,.int .i64 (e:Int)),(9,.int .i64 n),(11,.ptr .own (bA .own ⟨p,[],g,cz,tt⟩)),(12,.int .i64 i)]=some (.normal,[(0,.str ⟨s.toArray⟩),(2,.ptr .own (bA .own dw)),(5,.int .i64 (f:Int)),(9,.int .i64 n),(11,.ptr .own (bA .own ⟨p,[],g++[l],cz,tt⟩)),(12,.int .i64 ((i+1:Nat):Int))]):=by
    try simp at u2
    simp -implicitDefEqProofs [mQ,s8,cz,dw,g1,g2,dJ,oy,hw,u2,hlz,cM]
   refine⟨λq hq=>?_,λhq=>?_⟩;·obtain⟨q',h1,rfl⟩:=kY.1 hq;rw[dV,hstep];have:=ih.1 q' h1;rw[mV] at this;exact this
   ·have h1:ko m r=none:=by simpa using hq
    obtain⟨g',j,h2⟩:=ih.2 h1;refine⟨g',j,?_⟩;rw[dV,hstep];exact h2
def aa9(s:ag)(hb:s.length<=16777216):ev LI TT 56 [.str ⟨s.toArray⟩]=some (.av [.agg (bA .own ((ij s).1)),.bool ((ij s).2)],[.dead]):=by
 rw[aq (b:=s9) (rs:=[.c 2 7 true 63,.t 3]) (n:=1) rfl rfl];have u1:=EO s 0 (by omega) (by omega);simp only[yf,ye,JR] at u1;rw[ajv];have eo:yy s=(cP 10 s).bind λc=>(lV (bx 32 c.1)).bind λw=>(ko (min ((bn w.2.2).getD 0) 4) c.2).map λq=>(⟨w.1,gN (de q.2).1.fields,q.1,(de q.2).1,(((bn w.2.1).getD 0:Nat):Int)⟩:Ob):=rfl;rw[eo];clear eo;cases hc:cP 10 s with
 |none=>rw[hc] at u1;have u2:=wH [] (by simp);simp at u1 u2;simp -implicitDefEqProofs [s9,u1,u2,dw,cz]
 |some c=>
 obtain⟨l,b⟩:=c;rw[hc] at u1;have hd:=uk hc;simp only at hd;obtain⟨d1,d2,d3⟩:=hd;have u2:=wH l (by omega);have hm:=pE 32 l;have d4:¬(((s.length - b.length:Nat):Int)<0):=by omega
 simp only[gw] at u1⊢;by_cases h4:(bx 32 l).length=4;rotate_left
 ·have rV:¬(((bx 32 l).length:Int)=4):=by omega
  have AU:lV (bx 32 l)=none:=by unfold lV;split;(rename_i e;rw[e] at h4;simp at h4);rfl
  rw[AU];obtain⟨e,he⟩:∃e,s.length - b.length=e:=⟨_,rfl⟩;rw[he] at u1 d4;try simp at u1 u2
  simp -implicitDefEqProofs [s9,u1,u2,rV,d4,dw,cz]
 obtain⟨w0,w1,w2,w3,hw⟩:=Hx h4;rw[hw] at u2 hm⊢;have u3:=tW w2 (by have:=hm w2 (by simp);omega);have u4:=tW w3 (by have:=hm w3 (by simp);omega);have FH:=hm w1 (by simp);simp only[lV,gw];obtain⟨n,hn⟩:∃n,(bn w3).getD 0=n:=⟨_,rfl⟩
 have hnb:n<=1000000:=by
  rw[<-hn];cases hq:bn w3 with
  |none=>simp
  |some x=>have:=(mJ.1 hq).1;simp;omega
 rw[hn] at u4⊢;obtain⟨t,ht⟩:∃t,(((bn w2).getD 0:Nat):Int)=t:=⟨_,rfl⟩;rw[ht] at u3⊢;have u5:=PY s w1 t n hnb hb (min n 4) 0 [] b (by omega) rfl (by omega) d2;obtain⟨e,he⟩:∃e,s.length - b.length=e:=⟨_,rfl⟩;rw[he] at u1 d4 u5;cases hq:ko (min n 4) b with
 |none=>obtain⟨g',j,u6⟩:=u5.2 hq;simp[cz,dw] at u1 u2 u3 u4 u6;simp -implicitDefEqProofs [s9,u1,u2,u3,u4,u6,d4,dw,cz]
 |some q=>
 have u6:=u5.1 q hq;have hv:=Vs _ _ _ hq;obtain⟨vs,rest⟩:=q;simp only[cq] at hv u6⊢;have hrl:rest.length<=s.length:=by omega
 have bu:s.drop (s.length - rest.length)=rest:=by
  have e2:(s.length - b.length)+(b.length - rest.length)=s.length - rest.length:=by omega
  rw[<-e2,<-En,d2];exact hv.2.2.2
 have u7:=abe rest (by omega);have hrw:=ND rest;have hvw:=VP rest;have hrf:aX (de rest).1=wL aH (de rest).1.fields+(de rest).1.body.length:=rfl;have u8:=QN (de rest).1.fields (by omega);have hvs:wL wS vs<=4*(16777216+1):=qP (λv eM=>by have:=hv.2.1 v eM;simp only[wS];omega) (by omega);have u9:=KI ⟨w1,gN (de rest).1.fields,vs,(de rest).1,t⟩ (by simp only[aW];omega);generalize gN (de rest).1.fields=vo at u8 u9⊢;generalize de rest=rr at u7 u8 u9⊢;obtain⟨⟨NK,NH,Nx⟩,UL⟩:=rr;simp only at u7 u8 u9⊢;obtain⟨f,hf⟩:∃f,s.length - rest.length=f:=⟨_,rfl⟩;rw[hf] at u6 bu;have d5:¬((f:Int)<0):=by omega
 have d6:(f:Int)<=s.length:=by omega
 have d7:(s.drop f).take (s.length - f)=s.drop f:=vS (by simp);rw[bu] at d7;simp only[dw,cz,e7] at u6 u9⊢;simp at u1 u2 u3 u4 u6 u7 u8;by_cases gt:fm ⟨w1,vo,vs,⟨NK,NH,Nx⟩,t⟩=s;·rw[gt] at u9;simp at u9;simp -implicitDefEqProofs [s9,u1,u2,u3,u4,u6,u7,u8,u9,d4,d5,d6,d7,bu,gt,Lib.extract_mk]
 simp at u9;simp -implicitDefEqProofs [s9,u1,u2,u3,u4,u6,u7,u8,u9,d4,d5,d6,d7,bu,gt,eq_false gt,Lib.extract_mk];all_goals (repeat' split)<;>first|rfl|omega|(simp_all;done)|(simp_all;omega)|skip
end M
set_option maxHeartbeats 4000000
namespace M
open Go
def sS{α:Type}(T:List α)(n:Nat)(a:α)(h:T[n]?=some a)(g:α->α):T.modify n g=T.set n (g a):=by
 apply gP;intro j;rw[tJ,wg];by_cases e:n=j;·subst e;obtain⟨hi,hh⟩:=aK.1 h;have hg:T[n]=a:=hh;simp[hg,hi]
 ·simp[e]
def tj{α:Type}(T:List α)(n:Nat)(a:α)(g:α->α):(T.set n a).modify n g=T.set n (g a):=by
 apply gP;intro j;rw[tJ,wg,wg];by_cases e:n=j;·subst e;by_cases h:n<T.length<;>simp[h]
 ·simp[e]
def dA(k:Kp):List X:=[.str ⟨k.obj.path.toArray⟩,.dead,.dead,.int .i64 k.obj.resp.status,.dead,.str ⟨k.obj.resp.body.toArray⟩,.int .i64 k.obj.t,.int .i64 k.at_,.int .i64 k.seq]
def apR{α:Type}(w:α->Nat)(l:List α)(i:Nat)(v:α):wL w (l.set i v)<=wL w l+w v:=by
 unfold wL;rw[JX];induction l generalizing i with
 |nil=>simp
 |cons a l ih=>
  cases i with
  |zero=>simp;omega
  |succ i=>have:=ih i;simp at this⊢;omega
def Lr(k:Nat->Bool):∀(ws:List Wr) (i:Nat) (cs:List ag),wL wS (foldI (hU k) i ws cs)<=wL wS cs+wL cu ws
 |[],i,cs=>by simp[foldI]
 |w::ws,i,cs=>by
  have h:=Lr k ws (i+1) (hU k i cs w)
  have h2:wL wS (hU k i cs w)<=wL wS cs+cu w:=by
   unfold hU;split;·exact apR wS cs _ w.text
   ·omega
  have h3:wL cu (w::ws)=cu w+wL cu ws+1:=by simp[wL];omega
  rw[foldI];omega
def R4(d:bq):cA (ew d)<=cA d:=by have:=Lr (gG [] true) d.pending 0 d.cells;show wL wS (nJ (gG [] true) d.cells d.pending)+wL cu []<=wL wS d.cells+wL cu d.pending;unfold nJ;have h:wL cu ([]:List Wr)=0:=rfl;omega
structure YL (s:Sh):Prop where
 d:dy s.aS=true
 b:(s.aI.length:Int)<=5
 n:5<=s.next/\s.next<=19
 q:1<=s.seq/\s.seq<=100000
 bs:aN en s.aI=true
 os:vk s.seq s.au=true
def Va{s:Sh}(h:lT s=true):YL s:=by unfold lT at h;simp only[aC,bD] at h;exact⟨h.1.1.1.1.1,h.1.1.1.1.2,h.1.1.1.2,h.1.1.2,h.1.2,h.2⟩
def ak4{s:Sh}(h:lT s=true){k:Kp}(hk:k∈s.au):cX k.obj=true:=by unfold lT at h;simp only[aC] at h;have:=h.2;unfold vk at this;obtain⟨i,hi,rfl⟩:=zN hk;have h2:=ji.1 this (s.au[i],i) (lX (i:=i) (by simp[hi]));unfold sG at h2;simp only[aC] at h2;exact h2.1.1.1.1
end M
set_option maxHeartbeats 4000000
namespace M
open Go
def Ft(d:bq)(a:Int):(cU d a).length<=cA d:=by
 have hw:cA d=wL wS d.cells+wL cu d.pending:=rfl;unfold cU;rw[Ls];cases h:d.pending.reverse.find? (λw=>decide (w.at_=a)) with
 |none=>
  simp only[Option.elim_none];rw[k6];cases h2:d.cells[a.toNat]? with
  |none=>simp
  |some s=>have:=eZ (w:=wS) (lX h2);simp only[wS] at this;simp only[vV];omega
 |some w=>have:=List.mem_of_find?_eq_some h;have:=eZ (w:=cu) (List.mem_reverse.1 this);simp only[cu] at this;simp only[Option.elim_some];omega
def WO(d:bq)(a:Int)(hb:d.pending.length<=9223372036854775807):aJ (ai (ev LI TT) (aj TT) Ba) [(0,.ptr .af (bW .af d)),(1,.int .i64 a),(5,.int .i64 (d.pending.length - 1))]=
  (d.pending.reverse.find? (λw=>decide (w.at_=a))).elim (some (.exit 0,[(0,.ptr .af (bW .af d)),(1,.int .i64 a),(5,.int .i64 (-1)),(13,.bool false)])) (λw=>some (.ret,[(4,.str ⟨w.text.toArray⟩)])):=by
 refine aiS (f:=ai (ev LI TT) (aj TT) Ba) d.pending (λi=>[(0,.ptr .af (bW .af d)),(1,.int .i64 a),(5,.int .i64 i)]) (λw=>decide (w.at_=a)) (λw=>[(4,.str ⟨w.text.toArray⟩)]) _ (λi b hi hl=>?_) ?_;·have hw:IntKind.i64.wrap ((i:Int) - 1)=i - 1:=bC (by omega) (by omega);obtain⟨_,rfl⟩:=aK.1 hi;simp -implicitDefEqProofs [Ba,Mb,hl,hw]
 ·simp -implicitDefEqProofs [Ba,Mb]
def Qh(d:bq)(a:Int)(hb:d.pending.length<=9223372036854775807)(h0:0<=a)(h1:a<d.cells.length):ev LI TT 140 [.ptr .af (bW .af d),.int .i64 a]=some (.str ⟨(cU d a).toArray⟩,[.dead,.dead]):=by
 rw[aq (b:=FY) (rs:=[.t 4]) (n:=2) rfl rfl];have h:=WO d a hb;have hw:IntKind.i64.wrap ((d.pending.length:Int) - 1)=d.pending.length - 1:=bC (by omega) (by omega);have h2:a.toNat<d.cells.length:=by omega
 simp at h;unfold cU;rw[Ls];simp -implicitDefEqProofs [FY,hw,h];cases d.pending.reverse.find? (λw=>decide (w.at_=a))<;>simp[h0,h2]
def XO(d:bq)(a:Int)(hb:d.pending.length<=9223372036854775807)(x:ag):aJ (ai (ev LI TT) (aj TT) CN) [(1,.int .i64 a),(2,.ptr .own (bW .af d)),(5,.str ⟨(x).toArray⟩),(6,.int .i64 0)]=some (.exit 0,[(1,.int .i64 a),(2,.ptr .own (bW .af d)),(5,.str ⟨(((d.pending).foldl (λout w=>if w.at_=a then w.text else out) x)).toArray⟩),(6,.int .i64 (d.pending).length),(24,.bool false)]):=by
 refine HC (f:=ai (ev LI TT) (aj TT) CN) (d.pending) (λi (x:ag)=>[(1,.int .i64 a),(2,.ptr .own (bW .af d)),(5,.str ⟨(x).toArray⟩),(6,.int .i64 i)]) (λout w=>if w.at_=a then w.text else out) (λx=>[(1,.int .i64 a),(2,.ptr .own (bW .af d)),(5,.str ⟨(x).toArray⟩),(6,.int .i64 (d.pending).length),(24,.bool false)]) (λ_ _=>True) x trivial (λi b x hi hl _=>?_) (λ_ _ _ _ _=>trivial) (λx _=>?_);·have hw:=aO i (by first|omega|(simp at hl;omega));obtain⟨_,rfl⟩:=aK.1 hi;simp -implicitDefEqProofs [CN,NQ,hl,hw];split<;>rfl
 ·simp -implicitDefEqProofs [CN,NQ]
def QE(d:bq)(a:Int)(hb:d.pending.length<=9223372036854775807):ev LI TT 55 [.agg (bW .af d),.int .i64 a]=some (.str ⟨(if dy d=true/\0<=a/\a<=19 then cU d a else []).toArray⟩,[.dead,.dead]):=by
 rw[aq (b:=Ic) (rs:=[.t 4]) (n:=2) rfl rfl];have h:=λx=>XO d a hb x;have h2:=Aa d hb;simp at h h2;simp -implicitDefEqProofs [Ic,h,h2];by_cases hc:dy d=true/\0<=a/\a<=19
 ·obtain⟨g1,g2,g3⟩:=hc;have g4:=(lM g1).2.1;have g5:¬(a<0\/19<a):=by omega
  have g6:a.toNat<d.cells.length:=by omega
  simp[g1,g2,g3,g5,g6,h,cU]
 ·by_cases g1:dy d=true
  ·have g5:(a<0\/19<a):=by false_or_by_contra;exact hc ⟨g1,by omega,by omega⟩
   have g6:¬(0<=a/\a<=19):=by omega
   simp[g1,g5,g6]
  ·simp[g1]
def QU(x:Int):ev LI TT 207 [.int .i64 x]=some (.bool false,[.dead]):=by rw[aq (b:=Jv) (rs:=[.t 2]) (n:=1) rfl rfl];simp -implicitDefEqProofs [Jv];all_goals (repeat' split)<;>first|rfl|omega|(simp_all;done)|(simp_all;omega)|skip
def rI(a b:Int):Int:=if a<b then -1 else if b<a then 1 else 0
def abC(a:Int)(b:Int):ev LI TT 146 [.int .i64 a,.int .i64 b]=some (.int .i64 (rI a b),[.dead,.dead]):=by
 rw[aq (b:=Ju) (rs:=[.t 4]) (n:=2) rfl rfl];unfold rI;by_cases g1:a<b;all_goals by_cases g2:b<a
 all_goals
 have u1:=QU a;try simp at u1
 have u2:=QU b;try simp at u2
 simp -implicitDefEqProofs [Ju,u1,u2,g1,g2];all_goals (repeat' split)<;>first|rfl|omega|(simp_all;done)|(simp_all;omega)|skip
def Qo(a b:Kp):ev LI TT 145 [.agg (aG .af a),.agg (aG .af b)]=some (.int .i64 (rI a.seq b.seq),[.dead,.dead]):=by
 rw[aq (b:=Gb) (rs:=[.t 4]) (n:=2) rfl rfl];have u1:=abC a.seq b.seq;try simp at u1
 simp -implicitDefEqProofs [Gb,u1];all_goals (repeat' split)<;>first|rfl|omega|(simp_all;done)|(simp_all;omega)|skip
def ak2{α:Type}(A:List α)(x k:α)(B:List α)(n:Nat)(hn:n=A.length):((A++x::k::B).set (n+1) x).set n k=A++k::x::B:=by subst hn;simp[List.set_append]
def WG(a b:Int)(fi:Int)(T:List (List X))(j:Nat)(x k:Kp)(hj:j+1<T.length)(hx:T[j]=aG .own x)(hk:T[j+1]=aG .own k)(hb:T.length<=1073741824)(ha:a=0)(hlt:k.seq<x.seq):
  ai (ev LI TT) (aj TT) tC [(0,.ref 100000 []),(1,.int .i64 a),(2,.int .i64 b),(3,.fn 145 []),(8,.int .i64 fi),(9,.int .i64 ((j+1:Nat):Int)),(100000,.row .own 9 T)]=some (.normal,[(0,.ref 100000 []),(1,.int .i64 a),(2,.int .i64 b),(3,.fn 145 []),(8,.int .i64 fi),(9,.int .i64 (j:Nat)),(100000,.row .own 9 ((T.set (j+1) (aG .own x)).set j (aG .own k)))]):=by
 subst ha;have hw:IntKind.i64.wrap ((j:Int)+1 - 1)=j:=by rw[show ((j:Int)+1 - 1)=j by omega];exact bC (by omega) (by omega)
 have fh:IntKind.i64.wrap (j:Int)=j:=bC (by omega) (by omega);have u1:=Qo k x;have hc:rI k.seq x.seq=-1:=by unfold rI;rw[aA hlt]
 rw[hc] at u1;have hj':j<T.length:=by omega
 have h0:(0:Int)<(j:Int)+1:=by omega
 have h1:(0:Int)<=(j:Int)+1:=by omega
 have hm:=sS T (j+1) _ (aK.2 ⟨hj,hk⟩);have hm0:=sS T j _ (aK.2 ⟨hj',hx⟩);have FH:∀w g,(T.set j w).modify (j+1) g=(T.set j w).set (j+1) (g (aG .own k)):=λw g=>sS (T.set j w) (j+1) _ (by rw[Wy (by omega)];exact aK.2 ⟨hj,hk⟩) g;have hm2:∀w v g,((T.set j w).set (j+1) v).modify j g=(T.set (j+1) v).set j (g w):=λw v g=>by rw[List.set_comm _ _ (by omega:j≠j+1),tj]
 have ho:aj TT 145=true:=rfl;try simp at hx hk u1 hm hm0 FH
 simp -implicitDefEqProofs [tC,JA,vO,zw,vP,zx,zy,hw,fh,hj,hj',hx,hk,u1,h0,h1,ho,xJ,hm,hm0,FH,hm2,tj,ghost,Au]
def WE(b:Int)(fi:Int)(T:List (List X))(j:Nat)(x k:Kp)(hj:j+1<T.length)(hx:T[j]=aG .own x)(hk:T[j+1]=aG .own k)(hb:T.length<=1073741824)(hlt:¬k.seq<x.seq):
  ai (ev LI TT) (aj TT) tC [(0,.ref 100000 []),(1,.int .i64 0),(2,.int .i64 b),(3,.fn 145 []),(8,.int .i64 fi),(9,.int .i64 ((j+1:Nat):Int)),(100000,.row .own 9 T)]=some (.exit 2,[(0,.ref 100000 []),(1,.int .i64 0),(2,.int .i64 b),(3,.fn 145 []),(8,.int .i64 fi),(9,.int .i64 ((j+1:Nat):Int)),(34,.bool false),(100000,.row .own 9 T)]):=by
 have fh:IntKind.i64.wrap (j:Int)=j:=bC (by omega) (by omega);have u1:=Qo k x;have hc:¬rI k.seq x.seq<0:=by unfold rI;rw[aE hlt];split<;>omega
 obtain⟨z,hz⟩:∃z,rI k.seq x.seq=z:=⟨_,rfl⟩;rw[hz] at u1 hc;have hj':j<T.length:=by omega
 have h0:(0:Int)<(j:Int)+1:=by omega
 have h1:(0:Int)<=(j:Int)+1:=by omega
 have ho:aj TT 145=true:=rfl;try simp at hx hk u1
 simp -implicitDefEqProofs [tC,JA,vO,zw,vP,zx,zy,fh,hj,hj',hx,hk,u1,hc,h0,h1,ho,xJ]
def WH(b:Int)(fi:Int)(T:List (List X)):
  ai (ev LI TT) (aj TT) tC [(0,.ref 100000 []),(1,.int .i64 0),(2,.int .i64 b),(3,.fn 145 []),(8,.int .i64 fi),(9,.int .i64 0),(100000,.row .own 9 T)]=some (.exit 2,[(0,.ref 100000 []),(1,.int .i64 0),(2,.int .i64 b),(3,.fn 145 []),(8,.int .i64 fi),(9,.int .i64 0),(34,.bool false),(100000,.row .own 9 T)]):=by simp -implicitDefEqProofs [tC,JA,vO,zw,vP,zx,zy]
def PU(b fi:Int)(k:Kp)(R:List Kp):∀(rev done:List Kp),(rev.length+done.length+R.length+1<=1073741824)->∃j:Nat,
  aJ (ai (ev LI TT) (aj TT) tC) [(0,.ref 100000 []),(1,.int .i64 0),(2,.int .i64 b),(3,.fn 145 []),(8,.int .i64 fi),(9,.int .i64 (rev.length:Nat)),(100000,.row .own 9 ((rev.reverse++k::(done++R)).map (aG .own)))]=some (.exit 2,[(0,.ref 100000 []),(1,.int .i64 0),(2,.int .i64 b),(3,.fn 145 []),(8,.int .i64 fi),(9,.int .i64 (j:Nat)),(34,.bool false),(100000,.row .own 9 ((xI Kp.seq k rev done++R).map (aG .own)))])
 |[],done,_=>by refine⟨0,?_⟩;rw[dV];have:=WH b fi ((k::(done++R)).map (aG .own));simp only[List.reverse_nil,e7,k8];rw[show (((0:Nat):Int))=0 from rfl,this];rfl
 |x::rev,done,hb=>by
  simp only[dc] at hb;have hl:((x::rev).reverse++k::(done++R)).length=rev.length+done.length+R.length+2:=by simp;omega
  have e1:(x::rev).reverse++k::(done++R)=rev.reverse++x::k::(done++R):=by simp
  have hx:((rev.reverse++x::k::(done++R)).map (aG .own))[rev.length]'(by simp)=aG .own x:=by simp
  have hk:((rev.reverse++x::k::(done++R)).map (aG .own))[rev.length+1]'(by simp)=aG .own k:=by simp
  rw[e1,dc];unfold xI;by_cases g:k.seq<x.seq
  ·rw[aA g];obtain⟨j,hj⟩:=PU b fi k R rev (x::done) (by simp;omega);refine⟨j,?_⟩;have hs:=WG 0 b fi ((rev.reverse++x::k::(done++R)).map (aG .own)) rev.length x k (by simp) hx hk (by rw[dH,<-e1,hl];omega) rfl g;rw[dV,hs];have e2:(((rev.reverse++x::k::(done++R)).map (aG .own)).set (rev.length+1) (aG .own x)).set rev.length (aG .own k)=(rev.reverse++k::((x::done)++R)).map (aG .own):=by have:=ak2 (rev.reverse.map (aG .own)) (aG .own x) (aG .own k) ((done++R).map (aG .own)) rev.length (by simp);first|(simp;done)|simpa using this
   rw[e2];exact hj
  ·rw[aE g];refine⟨rev.length+1,?_⟩;have hs:=WE b fi ((rev.reverse++x::k::(done++R)).map (aG .own)) rev.length x k (by simp) hx hk (by rw[dH,<-e1,hl];omega) g;rw[dV,hs];have e2:(x::rev).reverse++k::done++R=rev.reverse++x::k::(done++R):=by simp
   rw[e2];rfl
end M
set_option maxHeartbeats 4000000
namespace M
open Go
def PV(n:Nat)(hn:n<=1073741824):∀(R S:List Kp),sY Kp.seq S->S.length+R.length=n->
  aJ (ai (ev LI TT) (aj TT) vN) [(0,.ref 100000 []),(1,.int .i64 0),(2,.int .i64 n),(3,.fn 145 []),(8,.int .i64 (S.length:Nat)),(100000,.row .own 9 ((S++R).map (aG .own)))]=some (.exit 0,[(0,.ref 100000 []),(1,.int .i64 0),(2,.int .i64 n),(3,.fn 145 []),(8,.int .i64 n),(14,.bool false),(100000,.row .own 9 ((R.foldl (λS k=>fk Kp.seq k S) S).map (aG .own)))])
 |[],S,ho,hl=>by
  have:S.length=n:=by simpa using hl
  subst this;rw[dV];simp -implicitDefEqProofs [vN,JB]
 |k::R,S,ho,hl=>by
  simp only[dc] at hl;have hlt:S.length<n:=by omega
  have hw:=aO S.length (by omega);obtain⟨j,hj⟩:=PU n (S.length:Nat) k R S.reverse [] (by simp;omega);rw[Tl S.reverse [] (by simpa using ho) (by simp)] at hj;have e1:S.reverse.reverse++k::([]++R)=S++k::R:=by simp
  have e2:S.reverse.reverse++[]=S:=by simp
  rw[e1,e2,JW] at hj
  have hstep:ai (ev LI TT) (aj TT) vN [(0,.ref 100000 []),(1,.int .i64 0),(2,.int .i64 n),(3,.fn 145 []),(8,.int .i64 (S.length:Nat)),(100000,.row .own 9 ((S++k::R).map (aG .own)))]=some (.normal,[(0,.ref 100000 []),(1,.int .i64 0),(2,.int .i64 n),(3,.fn 145 []),(8,.int .i64 ((fk Kp.seq k S).length:Nat)),(100000,.row .own 9 ((fk Kp.seq k S++R).map (aG .own)))]):=by
   rw[Ti];try simp at hj
   simp -implicitDefEqProofs [vN,JB,hlt,hw,hj]
  rw[dV,hstep];exact PV n hn R (fk Kp.seq k S) (Tj ho) (by rw[Ti];omega)
def abL(l:List Kp)(hb:l.length<=1073741824):ev LI TT 245 [.row .own 9 (l.map (aG .own)),.int .i64 0,.int .i64 l.length,.fn 145 []]=some (.av [],[.row .own 9 ((iw Kp.seq l).map (aG .own)),.dead,.dead,.dead]):=by
 rw[aq (b:=Ea) (rs:=[]) (n:=4) rfl rfl];cases l with
 |nil=>
  have h:aJ (ai (ev LI TT) (aj TT) vN) [(0,.ref 100000 []),(1,.int .i64 0),(2,.int .i64 0),(3,.fn 145 []),(8,.int .i64 1),(100000,.row .own 9 [])]=some (.exit 0,[(0,.ref 100000 []),(1,.int .i64 0),(2,.int .i64 0),(3,.fn 145 []),(8,.int .i64 1),(14,.bool false),(100000,.row .own 9 [])]):=by rw[dV];simp -implicitDefEqProofs [vN,JB]
  have h1:IntKind.i64.wrap 1=1:=bC (by omega) (by omega);simp -implicitDefEqProofs [Ea,h,h1,iw]
 |cons a l=>
 have h:=PV (a::l).length hb l [a] (by simp[sY]) (by simp;omega);have h1:IntKind.i64.wrap 1=1:=bC (by omega) (by omega);have e:iw Kp.seq (a::l)=l.foldl (λS k=>fk Kp.seq k S) [a]:=rfl;rw[e];generalize l.foldl (λS k=>fk Kp.seq k S) [a]=Z at h⊢;try simp at h
 simp -implicitDefEqProofs [Ea,h,h1,vO,zw,vP,zx,zy];all_goals (repeat' split)<;>first|rfl|omega|(simp_all;done)|(simp_all;omega)|skip
def abM(l:List Kp)(hb:l.length<=15):ev LI TT 206 [.row .own 9 (l.map (aG .own)),.int .i64 l.length,.fn 145 []]=some (.av [],[.row .own 9 ((iw Kp.seq l).map (aG .own)),.dead,.dead]):=by
 rw[aq (b:=JC) (rs:=[]) (n:=3) rfl rfl];have h0:¬(20:Int)<=l.length:=by omega
 have h0':¬(20:Int)<l.length:=by omega
 have h1:aJ (ai (ev LI TT) (aj TT) OY) [(0,.ref 100000 []),(1,.int .i64 l.length),(2,.fn 145 []),(6,.int .i64 20),(7,.int .i64 0),(8,.int .i64 20),(100000,.row .own 9 (l.map (aG .own)))]=some (.exit 0,[(0,.ref 100000 []),(1,.int .i64 l.length),(2,.fn 145 []),(6,.int .i64 20),(7,.int .i64 0),(8,.int .i64 20),(13,.bool false),(100000,.row .own 9 (l.map (aG .own)))]):=by rw[dV];simp -implicitDefEqProofs [OY,VX,h0]
 have h2:∀Z,aJ (ai (ev LI TT) (aj TT) OZ) [(0,.ref 100000 []),(1,.int .i64 l.length),(2,.fn 145 []),(6,.int .i64 20),(100000,.row .own 9 Z)]=some (.exit 2,[(0,.ref 100000 []),(1,.int .i64 l.length),(2,.fn 145 []),(6,.int .i64 20),(30,.bool false),(100000,.row .own 9 Z)]):=by intro Z;rw[dV];simp -implicitDefEqProofs [OZ,VY,h0']
 have h3:=abL l (by omega);try simp at h1 h3
 simp -implicitDefEqProofs [JC,h1,h2,h3];all_goals (repeat' split)<;>first|rfl|omega|(simp_all;done)|(simp_all;omega)|skip
def abK(l:List Kp)(hb:l.length<=15):ev LI TT 144 [.row .own 9 (l.map (aG .own)),.fn 145 []]=some (.av [],[.row .own 9 ((iw Kp.seq l).map (aG .own)),.dead]):=by
 rw[aq (b:=Jz) (rs:=[]) (n:=2) rfl rfl];have u1:=abM l hb;try simp at u1
 simp -implicitDefEqProofs [Jz,u1];all_goals (repeat' split)<;>first|rfl|omega|(simp_all;done)|(simp_all;omega)|skip
def Qp(s:Sh)(n:Int)(hs:0<=s.seq/\s.seq<=1000000)(hn:0<=n/\n<=1000000):ev LI TT 142 [.ptr .own (aP .own s),.int .i64 n]=some (.av [],[.ptr .own (aP .own ⟨s.aS,s.au,s.aI,s.next,if n<100000 then max s.seq (n+1) else s.seq⟩),.dead]):=by
 rw[aq (b:=xy) (rs:=[]) (n:=2) rfl rfl];have hw:IntKind.i64.wrap (n+1)=n+1:=bC (by omega) (by omega);by_cases g:n<100000;rotate_left;·simp -implicitDefEqProofs [xy,g]
 by_cases g2:n+1>s.seq
 ·have e:max s.seq (n+1)=n+1:=by omega
  have g3:s.seq<n+1:=by omega
  simp -implicitDefEqProofs [xy,g,g2,g3,hw,e]
 have e:max s.seq (n+1)=s.seq:=by omega
 have g3:¬s.seq<n+1:=by omega
 simp -implicitDefEqProofs [xy,g,g2,g3,hw,e];all_goals (repeat' split)<;>first|rfl|omega|(simp_all;done)|(simp_all;omega)|skip
def HV(s:ag):0<=(cI s).1/\(cI s).1<=100000:=by
 cases h:(cI s).2.2;·rw[UG h];simp
 ·have:=HW h;omega
def Xd(d:bq)(hd:dy d=true)(hwd:cA d<=16777216):
  aJ (ai (ev LI TT) (aj TT) uM) [(0,.az 100000 [] 0 0),(8,.int .i64 0),(100000,.ptr .own (aP .own ⟨d,[],[],5,1⟩))]=
  (match dr (jR d) 0 (List.range 5) ([],0) with
   |.inl g=>some (.exit 0,[(0,.az 100000 [] 0 0),(8,.int .i64 5),(9,.bool false),(100000,.ptr .own (aP .own ⟨d,[],g.1,5,g.2+1⟩))])
   |.inr e=>some (.ret,[(0,.az 100000 [] 0 0),(3,.int .i64 e.2.1),(6,.ptr .own (aZ e.2.2.1)),(8,.int .i64 (e.2.2.2:Nat)),(31,.bool true),(100000,.ptr .own (aP .own ⟨d,[],e.1.1,5,e.1.2+1⟩))])):=by
 obtain⟨k0,k1,k2⟩:=lM hd
 have:=Ck (xt:=0) (f:=ai (ev LI TT) (aj TT) uM) (List.range 5) (λi (g:List Bn×Int)=>[(0,.az 100000 [] 0 0),(8,.int .i64 i),(100000,.ptr .own (aP .own ⟨d,[],g.1,5,g.2+1⟩))]) (jR d)
  (λg=>[(0,.az 100000 [] 0 0),(8,.int .i64 5),(9,.bool false),(100000,.ptr .own (aP .own ⟨d,[],g.1,5,g.2+1⟩))])
  (λe=>(.ret,[(0,.az 100000 [] 0 0),(3,.int .i64 e.2.1),(6,.ptr .own (aZ e.2.2.1)),(8,.int .i64 (e.2.2.2:Nat)),(31,.bool true),(100000,.ptr .own (aP .own ⟨d,[],e.1.1,5,e.1.2+1⟩))]))
  (λi g=>(∀b∈g.1,en b=true)/\g.1.length<=i/\0<=g.2/\g.2<100000) ([],0) (by simp) (λi b g hi hl hg=>?_) (λi b g g' hi hg gY=>(HF d hg).1 g' gY) (λg hg=>?_)
 ·refine zH ?_ (this.trans ?_);·simp
  ·cases dr (jR d) 0 (List.range 5) ([],0) with
   |inl g=>rfl
   |inr e=>rfl
 ·have ux:i<5:=by simpa using hl
  have ff:(i:Int)<5:=by omega
  have hw:=aO i (by omega);have u1:=Qh d i (by omega) (by omega) (by omega);have LU:=Ft d i;have u2:=Ql (cU d i) (by omega);have hrl:=HU (cU d i);have ny:=HV (cU d i);have u3:=Zk (cI (cU d i)).2.1 (by omega);have hlz:(g.1.length+1)*48<=140737488355328:=by omega
  unfold jR;generalize cI (cU d i)=rr at u2 u3 hrl ny⊢;obtain⟨n,bd,ok⟩:=rr;simp only at u2 u3 hrl ny⊢;generalize gA bd=br at u3⊢;obtain⟨⟨bk,ba,bb,bt⟩,tU⟩:=br;have u4:=Qp ⟨d,[],g.1++[⟨bk,ba,bb,bt⟩],5,g.2+1⟩ n (by simp only;omega) (by omega);have uA:(if n<100000 then max (g.2+1) (n+1) else g.2+1)=ve g.2 n+1:=by unfold ve;split<;>omega
  simp only[uA] at u4;simp at u1 u2 u3 u4;cases ok;·simp -implicitDefEqProofs [uM,Br,xw,xx,ff,hw,u1,u2,u3,lv]
  cases tU;·simp -implicitDefEqProofs [uM,Br,xw,xx,ff,hw,u1,u2,u3,lv]
  simp -implicitDefEqProofs [uM,Br,xw,xx,ff,hw,u1,u2,u3,u4,lv,hlz,cM]
 ·simp -implicitDefEqProofs [uM,Br]
def ZK(d:bq)(hd:dy d=true)(hwd:cA d<=16777216):ev LI TT 74 [.ptr .own (aP .own ⟨d,[],[],5,1⟩)]=some (.av [],[.ptr .own (aP .own ⟨d,[],(dK d).1,5,(dK d).2+1⟩)]):=by
 rw[aq (b:=Bt) (rs:=[]) (n:=1) rfl rfl];have u1:=Xd d hd hwd;try simp at u1
 unfold dK;cases hr:dr (jR d) 0 (List.range 5) ([],0) with
 |inl g=>rw[hr] at u1;simp at u1;simp -implicitDefEqProofs [Bt,u1,z8]
 |inr e=>
 rw[hr] at u1;simp at u1;simp -implicitDefEqProofs [Bt,u1,u1,z8,xw,xx];all_goals (repeat' split)<;>first|rfl|omega|(simp_all;done)|(simp_all;omega)|skip
def Yh(d:bq)(hd:dy d=true)(hwd:cA d<=16777216):
  aJ (ai (ev LI TT) (aj TT) td) [(1,.ptr .own (bW .af d)),(4,.row .own 4 []),(5,.int .i64 0),(6,.int .i64 0)]=
  (match dr (jR d) 0 (List.range 5) ([],0) with
   |.inl g=>some (.exit 0,[(1,.ptr .own (bW .af d)),(4,.row .own 4 (g.1.map aZ)),(5,.int .i64 g.2),(6,.int .i64 5),(14,.bool false)])
   |.inr e=>some (.ret,[(2,.row .own 4 (e.1.1.map aZ)),(3,.int .i64 e.1.2),(4,.dead)])):=by
 obtain⟨k0,k1,k2⟩:=lM hd
 have:=Ck (xt:=0) (f:=ai (ev LI TT) (aj TT) td) (List.range 5) (λi (g:List Bn×Int)=>[(1,.ptr .own (bW .af d)),(4,.row .own 4 (g.1.map aZ)),(5,.int .i64 g.2),(6,.int .i64 i)]) (jR d)
  (λg=>[(1,.ptr .own (bW .af d)),(4,.row .own 4 (g.1.map aZ)),(5,.int .i64 g.2),(6,.int .i64 5),(14,.bool false)])
  (λe=>(.ret,[(2,.row .own 4 (e.1.1.map aZ)),(3,.int .i64 e.1.2),(4,.dead)]))
  (λi g=>(∀b∈g.1,en b=true)/\g.1.length<=i/\0<=g.2/\g.2<100000) ([],0) (by simp) (λi b g hi hl hg=>?_) (λi b g g' hi hg gY=>(HF d hg).1 g' gY) (λg hg=>?_)
 ·refine zH ?_ (this.trans ?_);·simp
  ·cases dr (jR d) 0 (List.range 5) ([],0) with
   |inl g=>rfl
   |inr e=>rfl
 ·have ux:i<5:=by simpa using hl
  have ff:(i:Int)<5:=by omega
  have hw:=aO i (by omega);have u1:=QE d i (by omega);have hin:dy d=true/\(0:Int)<=i/\(i:Int)<=19:=⟨hd,by omega,by omega⟩;rw[aA hin] at u1;have LU:=Ft d i;have u2:=QJ (cU d i) (by omega);have hrl:=HU (cU d i);have ny:=HV (cU d i);have u3:=aaU (cI (cU d i)).2.1 (by omega);have hlz:(g.1.length+1)*48<=140737488355328:=by omega
  unfold jR;generalize cI (cU d i)=rr at u2 u3 hrl ny⊢;obtain⟨n,bd,ok⟩:=rr;simp only at u2 u3 hrl ny⊢;generalize gA bd=br at u3⊢;obtain⟨⟨bk,ba,bb,bt⟩,tU⟩:=br;have AM:max g.2 n=if n<g.2 then g.2 else n:=by split<;>omega
  simp at u1 u2 u3;cases ok;·simp -implicitDefEqProofs [td,yU,ff,hw,u1,u2,u3,lv]
  cases tU;·simp -implicitDefEqProofs [td,yU,ff,hw,u1,u2,u3,lv]
  by_cases gq:n<100000;·simp -implicitDefEqProofs [td,yU,ff,hw,u1,u2,u3,lv,hlz,cM,gq,ve,AM]
  ·simp -implicitDefEqProofs [td,yU,ff,hw,u1,u2,u3,lv,hlz,cM,gq,ve]
 ·simp -implicitDefEqProofs [td,yU]
def abn(d:bq)(hd:dy d=true)(hwd:cA d<=16777216):ev LI TT 53 [.agg (bW .af d)]=some (.av [.row .own 4 ((dK d).1.map aZ),.int .i64 (dK d).2],[.dead]):=by
 rw[aq (b:=Dk) (rs:=[.t 2,.t 3]) (n:=1) rfl rfl];have u1:=Yh d hd hwd;try simp at u1
 unfold dK;cases hr:dr (jR d) 0 (List.range 5) ([],0) with
 |inl g=>rw[hr] at u1;simp at u1;simp -implicitDefEqProofs [Dk,u1,z8]
 |inr e=>
 rw[hr] at u1;simp at u1;simp -implicitDefEqProofs [Dk,u1,u1,z8];all_goals (repeat' split)<;>first|rfl|omega|(simp_all;done)|(simp_all;omega)|skip
end M
set_option maxHeartbeats 4000000
namespace M
open Go
def Nc(d:bq):wL aY (dK d).1<=1000:=by have:=sO d;have:=qP (w:=aY) (n:=120) (m:=5) (l:=(dK d).1) (λb hb=>Y1 (this.1 b hb)) this.2.1;omega
def Xe(d:bq)(bs:List Bn)(m:Int)(hd:dy d=true)(hwd:cA d<=16777216)(LH:wL aY bs<=1000)(hm:0<=m/\m<100000):
  aJ (ai (ev LI TT) (aj TT) qj) [(0,.az 100000 [] 0 0),(3,.row .own 9 []),(4,.int .i64 5),(100000,.ptr .own (aP .own ⟨d,[],bs,5,m+1⟩))]=
  some (.exit 0,[(0,.az 100000 [] 0 0),(3,.row .own 9 ((lI bs d m).1.map (aG .own))),(4,.int .i64 20),(11,.bool false),(100000,.ptr .own (aP .own ⟨d,[],bs,5,(lI bs d m).2+1⟩))]):=by
 obtain⟨k0,k1,k2⟩:=lM hd
 have:=ic (xt:=0) (f:=ai (ev LI TT) (aj TT) qj) (List.range 15) (λi (g:List Kp×Int)=>[(0,.az 100000 [] 0 0),(3,.row .own 9 (g.1.map (aG .own))),(4,.int .i64 ((5+i:Nat):Int)),(100000,.ptr .own (aP .own ⟨d,[],bs,5,g.2+1⟩))]) (sR bs d)
  (λg=>[(0,.az 100000 [] 0 0),(3,.row .own 9 (g.1.map (aG .own))),(4,.int .i64 20),(11,.bool false),(100000,.ptr .own (aP .own ⟨d,[],bs,5,g.2+1⟩))])
  (λi g=>i<=15/\tO i g) ([],m) ⟨by omega,⟨by simp,by simp,hm,by simp,by simp,by simp⟩⟩ (λi b g hi hl hg=>?_) (λi b g hi hg=>?_) (λg hg=>?_)
 ·refine zH ?_ this;simp
 ·have ux:i<15:=by simpa using hl
  obtain⟨at_,iG⟩:∃a,((5+i:Nat):Int)=a:=⟨_,rfl⟩;have ff:at_<20:=by omega
  have hw:IntKind.i64.wrap (at_+1)=at_+1:=bC (by omega) (by omega);have FD:((5+(i+1):Nat):Int)=at_+1:=by omega
  have u1:=Qh d at_ (by omega) (by omega) (by omega);have LU:=Ft d at_;have u2:=Ql (cU d at_) (by omega);have hrl:=HU (cU d at_);have ny:=HV (cU d at_);have u3:=ZB (cI (cU d at_)).2.1 (by omega);have how:=Ue (cI (cU d at_)).2.1;have mD:=hg.2.n;have hlz:(g.1.length+1)*136<=140737488355328:=by omega
  have hgm:=hg.2.m;unfold sR;rw[iG,FD];generalize cI (cU d at_)=rr at u2 u3 hrl ny how⊢;obtain⟨n,bd,ok⟩:=rr;simp only at u2 u3 hrl ny how⊢;generalize ij bd=br at u3 how⊢;obtain⟨⟨op,on,ov,⟨rs,rf,rb⟩,ot⟩,tU⟩:=br;simp only at how;have u4:=Qp ⟨d,[],bs,5,g.2+1⟩ n (by simp only;omega) (by omega);have u5:=Kl bs ⟨op,on,ov,⟨rs,rf,rb⟩,ot⟩ (by omega) (by omega);simp only at u5⊢;generalize gE bs ⟨op,on,ov,⟨rs,rf,rb⟩,ot⟩=hb at u5⊢;simp at u1 u2 u3;cases ok;·simp -implicitDefEqProofs [qj,uN,ff,hw,u1,u2,u3,lv]
  cases tU;·simp -implicitDefEqProofs [qj,uN,ff,hw,u1,u2,u3,lv]
  by_cases gq:n<100000;rotate_left
  ·have pV:100000<=n:=by omega
   simp -implicitDefEqProofs [qj,uN,ff,hw,u1,u2,u3,lv,gq,pV]
  have pV:¬100000<=n:=by omega
  have uA:(if n<100000 then max (g.2+1) (n+1) else g.2+1)=max g.2 n+1:=by rw[aA gq];omega
  simp only[uA] at u4;simp at u4 u5;cases hb;·simp -implicitDefEqProofs [qj,uN,ff,hw,u1,u2,u3,u4,u5,lv,hlz,cM,gq,pV]
  ·simp -implicitDefEqProofs [qj,uN,ff,hw,u1,u2,u3,u4,u5,lv,gq,pV]
 ·have ux:i<15:=by have:=(aK.1 hi).1;simpa using this
  exact⟨by omega,Ng bs d ux b hg.2⟩
 ·simp -implicitDefEqProofs [qj,uN]
def ZL(d:bq)(bs:List Bn)(m:Int)(hd:dy d=true)(hwd:cA d<=16777216)(LH:wL aY bs<=1000)(hm:0<=m/\m<100000):ev LI TT 75 [.ptr .own (aP .own ⟨d,[],bs,5,m+1⟩)]=some (.row .own 9 ((iw Kp.seq (lI bs d m).1).map (aG .own)),[.ptr .own (aP .own ⟨d,[],bs,5,(lI bs d m).2+1⟩)]):=by
 rw[aq (b:=Gc) (rs:=[.t 2]) (n:=1) rfl rfl];have u1:=Xe d bs m hd hwd LH hm;try simp at u1
 have u2:=abK (lI bs d m).1 (aiU bs d m hm);try simp at u2
 simp -implicitDefEqProofs [Gc,u1,u2];all_goals (repeat' split)<;>first|rfl|omega|(simp_all;done)|(simp_all;omega)|skip
def ZW(x k:Kp)(hx:aW x.obj<=1073741824)(hk:aW k.obj<=1073741824):ev LI TT 77 [.agg (aG .af x),.ptr .af (aG .af k)]=some (.bool (decide (x.seq=k.seq)||jV x.obj k.obj),[.dead,.dead]):=by
 rw[aq (b:=GC) (rs:=[.t 3]) (n:=2) rfl rfl];have u1:=Qw x.obj k.obj hx hk;try simp at u1
 by_cases g:x.seq=k.seq;all_goals
 simp -implicitDefEqProofs [GC,u1,g];all_goals (repeat' split)<;>first|rfl|omega|(simp_all;done)|(simp_all;omega)|skip
def Xc(d:bq)(bs:List Bn)(sq:Int)(all:List Kp)(p7:all.length<=15)(hall:∀k∈all,wm k):
  aJ (ai (ev LI TT) (aj TT) xE) [(2,.ptr .own (aP .own ⟨⟨[],[]⟩,[],[],0,0⟩)),(3,.ptr .own (aP .own ⟨d,[],bs,5,sq⟩)),(4,.row .own 9 (all.map (aG .own))),(12,.ref 4 []),(13,.int .i64 all.length),(14,.int .i64 0)]=
  some (.exit 0,[(2,.ptr .own (aP .own ⟨⟨[],[]⟩,[],[],0,0⟩)),(3,.ptr .own (aP .own ⟨d,(kP all).1,bs,(kP all).2,sq⟩)),(4,.row .own 9 (all.map dA)),(12,.ref 4 []),(13,.int .i64 all.length),(14,.int .i64 all.length),(15,.bool false)]):=by
 have:=ic (xt:=0) (f:=ai (ev LI TT) (aj TT) xE) all (λi (g:List Kp×Int)=>[(2,.ptr .own (aP .own ⟨⟨[],[]⟩,[],[],0,0⟩)),(3,.ptr .own (aP .own ⟨d,g.1,bs,g.2,sq⟩)),(4,.row .own 9 ((all.take i).map dA++(all.drop i).map (aG .own))),(12,.ref 4 []),(13,.int .i64 all.length),(14,.int .i64 i)]) (nO all)
  (λg=>[(2,.ptr .own (aP .own ⟨⟨[],[]⟩,[],[],0,0⟩)),(3,.ptr .own (aP .own ⟨d,g.1,bs,g.2,sq⟩)),(4,.row .own 9 (all.map dA)),(12,.ref 4 []),(13,.int .i64 all.length),(14,.int .i64 all.length),(15,.bool false)])
  (λi g=>g.1.length<=i) ([],5) (by simp) (λi b g hi hl hg=>?_) (λi b g hi hg=>?_) (λg hg=>?_)
 ·rw[TC] at this;refine zH ?_ this;simp
 ·obtain⟨_,rfl⟩:=aK.1 hi;have hw:=aO i (by omega);have hlz:(g.1.length+1)*136<=140737488355328:=by omega
  obtain⟨T,hT⟩:∃T,(all.take i).map dA++(all.drop i).map (aG .own)=T:=⟨_,rfl⟩;have hk:=hall _ (bh hl);have u1:=KQ (all.drop (i+1)) all[i] 77 (λx=>decide (x.seq=(all[i]).seq)||jV x.obj (all[i]).obj) rfl (λx hx=>ZW x all[i] (by have:=yx (hall x (Wg hx)).o;omega) (by have:=yx hk.o;omega)) (by simp;omega);have u2:=ZR (all[i]).at_ hk.a;have hlb:oL all i all[i]= !aN (λx=> !(decide (x.seq=(all[i]).seq)||jV x.obj (all[i]).obj)) (all.drop (i+1)):=by unfold oL aN;rw[Wt];simp
  have uu:T.length=all.length:=by rw[<-hT];simp;omega
  have iT:i<T.length:=by omega
  have e:all.drop i=all[i]::all.drop (i+1):=qV hl;have si:((all.take i).map dA).length=i:=by rw[dH,Ep];omega
  have jL:T[i]=aG .own all[i]:=by
   have h2:T[i]?=some (aG .own all[i]):=by rw[<-hT,iM (by omega),si,zA,e];rfl
   exact(aK.1 h2).2
  have SH:T.set i (dA all[i])=(all.take (i+1)).map dA++(all.drop (i+1)).map (aG .own):=by rw[<-hT,JH _ _ (by omega),si,zA,e,bE,Ee,n9 hl,jC,mV];rfl
  have hml:∀(l:List (List X)),X.cg .af l=l.map (X.ey .af):=λl=>by
   induction l with
   |nil=>rfl
   |cons a l ih=>simp[X.cg,ih]
  have kM:((X.cg .af (T.set i (dA all[i]))).take all.length).drop (i+1)=(all.map (aG .af)).drop (i+1):=by
   have hd1:(((all.take (i+1)).map dA).map (X.ey .af)).length=i+1:=by rw[dH,dH,Ep];omega
   rw[vS (by rw[hml,dH,JX];omega),SH,hml,jC];rw[List.drop_left' hd1,cS,<-lW];apply cm;intro x _;simp
  have hm:=sS T i _ (aK.2 ⟨iT,jL⟩);rw[hT,<-SH];unfold nO;rw[hlb];generalize aN (λx=> !(decide (x.seq=(all[i]).seq)||jV x.obj (all[i]).obj)) (all.drop (i+1))=q at u1⊢;have ff:(i:Int)<all.length:=by omega
  have FO:(i:Int)+1<=all.length:=by omega
  have hc0:(0:Int)<=(i:Int)+1:=by omega
  have ho:aj TT 77=true:=rfl;have htk:T.take all.length=T:=vS (by omega);rw[<-uu] at htk;try simp[dA] at u1 u2 jL hm kM
  cases q;·simp -implicitDefEqProofs [xE,GD,hl,ff,hw,iT,uu,jL,hm,kM,FO,hc0,u1,u2,tj,jT,gK,fO,cM,hlz,dA,htk]
  ·simp -implicitDefEqProofs [xE,GD,hl,ff,hw,iT,uu,jL,hm,kM,FO,hc0,u1,u2,tj,jT,gK,fO,cM,hlz,dA,htk]
 ·unfold nO;split;·omega
  ·simp;omega
 ·simp -implicitDefEqProofs [xE,GD]
end M
set_option maxHeartbeats 4000000
namespace M
open Go
def Oo:Sh:=⟨⟨List.replicate 20 [],[]⟩,[],[],5,1⟩
def aaZ:ev LI TT 114 []=some (.agg (bW .own ⟨List.replicate 20 [],[]⟩),[]):=by rw[aq (b:=Ie) (rs:=[.c 0 2 true 39]) (n:=0) rfl rfl];simp -implicitDefEqProofs [Ie];all_goals (repeat' split)<;>first|rfl|omega|(simp_all;done)|(simp_all;omega)|skip
def abg:ev LI TT 52 []=some (.agg (aP .own Oo),[]):=by
 rw[aq (b:=Iy) (rs:=[.c 0 6 true 43]) (n:=0) rfl rfl];have u1:=aaZ;try simp at u1
 simp -implicitDefEqProofs [Iy,u1,Oo];all_goals (repeat' split)<;>first|rfl|omega|(simp_all;done)|(simp_all;omega)|skip
def Qy(d:bq)(hd:dy d=true)(hwd:cA d<=16777216):ev LI TT 27 [.agg (bW .own d)]=some (.agg (aP .own (fB d)),[.dead]):=by rw[aq (b:=GF) (rs:=[.c 2 6 true 43]) (n:=1) rfl rfl];have B:=sO d;have O:=Cl d;have u1:=ZK d hd hwd;have u2:=ZL d (dK d).1 (dK d).2 hd hwd (Nc d) B.2.2;have u3:=Xc d (dK d).1 ((ju d).2+1) (ig d) (Nb d) (λk hk=>(HE hk).1);rw[show lI (dK d).1 d (dK d).2=ju d from rfl,show iw Kp.seq (ju d).1=ig d from rfl] at u2;have e:fB d=⟨d,(kP (ig d)).1,(dK d).1,(kP (ig d)).2,(ju d).2+1⟩:=rfl;rw[e];clear e B O;generalize kP (ig d)=lk at u3⊢;generalize ig d=all at u2 u3;generalize ju d=od at u2 u3⊢;generalize dK d=mb at u1 u2 u3⊢;obtain⟨au,nx⟩:=lk;obtain⟨od1,od2⟩:=od;obtain⟨bs,ms⟩:=mb;simp at u1 u2 u3;simp -implicitDefEqProofs [GF,u1,u2,u3];all_goals (repeat' split)<;>first|rfl|omega|(simp_all;done)|(simp_all;omega)|skip
noncomputable def yo(d:bq):Sh:=if dy d=true then fB d else Oo
def Tf{α:Type}(q:α->Int)(k:α):∀(l:List α) (g:List α×Bool),(l.foldl (jO q k) g).1.length<=g.1.length+2*l.length
 |[],g=>by simp
 |x::l,g=>by
  rw[qW];have h:=Tf q k l (jO q k g x);have h2:(jO q k g x).1.length<=g.1.length+2:=by unfold jO;(try dsimp only);split<;>simp
  simp only[dc];omega
def Eb{n m:Nat}(h:n<=m)(hm:m<=100000:=by decide):(n+1)*136<=140737488355328:=by omega
def JY{i n:Nat}(h:i<n)(hb:n<=1000):i<9223372036854775807:=by omega
def YI(T:List (List X))(n i:Nat)(k x:Kp)(out:List Kp)(iT:i<T.length)(hb:T.length<=1000)(jL:T[i]=aG .own x)(ho:out.length<=1000)(hq:k.seq<x.seq):
  ai (ev LI TT) (aj TT) pq [(0,.ref 100000 []),(3,.ptr .own (aG .own k)),(5,.row .own 9 (out.map (aG .own))),(6,.bool false),(7,.int .i64 i),(100000,.row .own 9 T)]=some (.normal,[(0,.ref 100000 []),(3,.ptr .own (dA k)),(5,.row .own 9 ((out++[k,x]).map (aG .own))),(6,.bool true),(7,.int .i64 ((i+1:Nat):Int)),(100000,.row .own 9 (T.set i (dA x)))]):=by
 have hz1:=Eb ho;have hz2:=Eb (Nat.succ_le_succ ho);have rX:(i:Int)<T.length:=Em.2 iT;have hw:=aO i (JY iT hb);have hm:=sS T i _ (aK.2 ⟨iT,jL⟩);try simp at jL hm
 simp -implicitDefEqProofs [pq,Dl,iT,rX,jL,hm,tj,hz1,hz2,hq,hw,cM,dA]
def YJ(T:List (List X))(n i:Nat)(k x:Kp)(out:List Kp)(iT:i<T.length)(hb:T.length<=1000)(jL:T[i]=aG .own x)(ho:out.length<=1000)(hq:¬k.seq<x.seq):
  ai (ev LI TT) (aj TT) pq [(0,.ref 100000 []),(3,.ptr .own (aG .own k)),(5,.row .own 9 (out.map (aG .own))),(6,.bool false),(7,.int .i64 i),(100000,.row .own 9 T)]=some (.normal,[(0,.ref 100000 []),(3,.ptr .own (aG .own k)),(5,.row .own 9 ((out++[x]).map (aG .own))),(6,.bool false),(7,.int .i64 ((i+1:Nat):Int)),(100000,.row .own 9 (T.set i (dA x)))]):=by
 have hz1:=Eb ho;have rX:(i:Int)<T.length:=Em.2 iT;have hw:=aO i (JY iT hb);have hm:=sS T i _ (aK.2 ⟨iT,jL⟩);try simp at jL hm
 simp -implicitDefEqProofs [pq,Dl,iT,rX,jL,hm,tj,hz1,hq,hw,cM,dA]
def YK(T:List (List X))(n i:Nat)(k x:Kp)(out:List Kp)(iT:i<T.length)(hb:T.length<=1000)(jL:T[i]=aG .own x)(ho:out.length<=1000):
  ai (ev LI TT) (aj TT) pq [(0,.ref 100000 []),(3,.ptr .own (dA k)),(5,.row .own 9 (out.map (aG .own))),(6,.bool true),(7,.int .i64 i),(100000,.row .own 9 T)]=some (.normal,[(0,.ref 100000 []),(3,.ptr .own (dA k)),(5,.row .own 9 ((out++[x]).map (aG .own))),(6,.bool true),(7,.int .i64 ((i+1:Nat):Int)),(100000,.row .own 9 (T.set i (dA x)))]):=by
 have hz1:=Eb ho;have rX:(i:Int)<T.length:=Em.2 iT;have hw:=aO i (JY iT hb);have hm:=sS T i _ (aK.2 ⟨iT,jL⟩);try simp at jL hm
 simp -implicitDefEqProofs [pq,Dl,iT,rX,jL,hm,tj,hz1,hw,cM,dA]
def akN(l:List Kp)(i:Nat)(hl:i<l.length)(hb:l.length<=15):((l.take i).map dA++(l.drop i).map (aG .own)).length=l.length/\((l.take i).map dA++(l.drop i).map (aG .own))[i]?=some (aG .own l[i])/\((l.take i).map dA++(l.drop i).map (aG .own)).set i (dA l[i])=(l.take (i+1)).map dA++(l.drop (i+1)).map (aG .own):=by
 have e:l.drop i=l[i]::l.drop (i+1):=qV hl;have si:((l.take i).map dA).length=i:=by rw[dH,Ep];omega
 refine⟨by simp;omega,?_,?_⟩;·rw[iM (by omega),si,zA,e];rfl
 ·rw[JH _ _ (by omega),si,zA,e,bE,Ee,n9 hl,jC,mV];rfl
def qK(k:Kp)(b:Bool):List X:=if b=true then dA k else aG .own k
def ak5(ks:List Nat)(k:Kp)(b:Bool):X.oS ks (qK k b)=qK k b:=by cases b<;>simp[qK,dA]
def Yi(l:List Kp)(k:Kp)(p7:l.length<=15):
  aJ (ai (ev LI TT) (aj TT) pq) [(0,.ref 100000 []),(3,.ptr .own (aG .own k)),(5,.row .own 9 []),(6,.bool false),(7,.int .i64 0),(100000,.row .own 9 (l.map (aG .own)))]=some (.exit 0,[(0,.ref 100000 []),(3,.ptr .own (qK k (l.foldl (jO Kp.seq k) ([],false)).2)),(5,.row .own 9 ((l.foldl (jO Kp.seq k) ([],false)).1.map (aG .own))),(6,.bool (l.foldl (jO Kp.seq k) ([],false)).2),(7,.int .i64 l.length),(12,.bool false),(100000,.row .own 9 (l.map dA))]):=by
 have:=ic (xt:=0) (f:=ai (ev LI TT) (aj TT) pq) l (λi (g:List Kp×Bool)=>[(0,.ref 100000 []),(3,.ptr .own (qK k g.2)),(5,.row .own 9 (g.1.map (aG .own))),(6,.bool g.2),(7,.int .i64 i),(100000,.row .own 9 ((l.take i).map dA++(l.drop i).map (aG .own)))]) (λ_ g x=>jO Kp.seq k g x)
  (λg=>[(0,.ref 100000 []),(3,.ptr .own (qK k g.2)),(5,.row .own 9 (g.1.map (aG .own))),(6,.bool g.2),(7,.int .i64 l.length),(12,.bool false),(100000,.row .own 9 (l.map dA))])
  (λi g=>g.1.length<=2*i) ([],false) (by simp) (λi b g hi hl hg=>?_) (λi b g hi hg=>?_) (λg hg=>?_)
 ·rw[Lq] at this;refine zH ?_ this;simp[qK]
 ·obtain⟨_,rfl⟩:=aK.1 hi;obtain⟨r1,r2,r3⟩:=akN l i hl p7;rw[<-r3];generalize (l.take i).map dA++(l.drop i).map (aG .own)=T at r1 r2⊢;obtain⟨q1,q2⟩:=aK.1 r2;obtain⟨out,pt⟩:=g;simp only at hg;unfold jO qK;cases pt
  ·by_cases hq:k.seq<(l[i]).seq;·have:=YI T 0 i k l[i] out q1 (by omega) q2 (by omega) hq;simp only[hq,fS,di,zE,cN,decide_true,Bool.or_true];exact this
   ·have:=YJ T 0 i k l[i] out q1 (by omega) q2 (by omega) hq;simp only[hq,fS,di,and_false,Pn,Bool.or_false];exact this
  ·have:=YK T 0 i k l[i] out q1 (by omega) q2 (by omega);simp only[Pt,di,cN,false_and,Bool.true_or];exact this
 ·unfold jO;simp only;split<;>simp<;>omega
 ·simp -implicitDefEqProofs [pq,Dl,ak5]
def abo(l:List Kp)(k:Kp)(p7:l.length<=15):ev LI TT 59 [.row .own 9 (l.map (aG .own)),.agg (aG .own k)]=some (.row .own 9 ((fk Kp.seq k l).map (aG .own)),[.dead,.dead]):=by
 rw[aq (b:=IQ) (rs:=[.t 4]) (n:=2) rfl rfl];have u1:=Yi l k p7;have hi:=aia Kp.seq k l [];simp only[e7] at hi;rw[<-hi];have hlen:=Tf Kp.seq k l ([],false);generalize l.foldl (jO Kp.seq k) ([],false)=g at u1 hlen⊢;obtain⟨out,pt⟩:=g;simp only[k8] at hlen;have hz1:(out.length+1)*136<=140737488355328:=by omega
 unfold GL;unfold qK at u1;cases pt;all_goals simp at u1
 all_goals
 simp -implicitDefEqProofs [IQ,u1,hz1,cM];all_goals (repeat' split)<;>first|rfl|omega|(simp_all;done)|(simp_all;omega)|skip
def P6{α:Type}(p:α->Bool):∀(l:List α) (i:Nat) (g:Bool),foldI (λ_ (g:Bool) x=>g && p x) i l g=(g && aN p l)
 |[],i,g=>by simp[foldI,aN]
 |x::l,i,g=>by rw[foldI,P6 p l];simp[aN,kr]
def YX{α:Type}(p:α->Bool)(l:List α):aN (λx=> !p x) l= !(l.any p):=by unfold aN;rw[Wt];simp
def jb(all:List Kp)(i:Nat):List (List X):=all.mapIdx λj k=>if j<i/\oL all j k=false then dA k else aG .own k
def Ji(all:List Kp)(i:Nat):(jb all i).length=all.length:=by simp[jb]
def Vp(all:List Kp)(i j:Nat)(h:i<=j)(hj:j<all.length):(jb all i)[j]?=some (aG .own all[j]):=by unfold jb;rw[Eo,cv hj];simp only[cq];rw[aE (by omega)]
def alr(all:List Kp):jb all 0=all.map (aG .own):=by
 apply gP;intro j;unfold jb;rw[Eo,dm];cases all[j]? with
 |none=>rfl
 |some k=>simp only[cq];rw[aE (by omega)]
def Jh(all:List Kp)(i j:Nat):(jb all i)[j]?=all[j]?.map λk=>if j<i/\oL all j k=false then dA k else aG .own k:=by unfold jb;rw[Eo]
def alq(all:List Kp)(i:Nat)(hi:i<all.length):jb all (i+1)=if oL all i all[i]=true then jb all i else (jb all i).set i (dA all[i]):=by
 apply gP;intro j;rw[Jh];by_cases e:j=i
 ·subst e;cases hb:oL all j all[j];·simp only[fS,di];rw[List.getElem?_set_self (by rw[Ji];exact hi),cv hi];simp only[cq,hb,and_true];rw[aA (by omega)]
  ·simp only[cN];rw[Jh,cv hi];simp only[cq,hb,Pt,and_false,di]
 ·have e2:j<i+1↔j<i:=⟨λh=>by omega,λh=>by omega⟩;simp only[e2];split;·rw[Jh]
  ·rw[Wy (by omega),Jh]
def YE(d:bq)(bs:List Bn)(sq:Int)(au:List Kp)(nx:Int)(all:List Kp)(p7:all.length<=15)(hall:∀k∈all,wm k)(i:Nat)(hi:i<all.length)(T:List (List X))(hT:∀j,i<=j->(h:j<all.length)->T[j]?=some (aG .own all[j]))(uu:T.length=all.length):
  aJ (ai (ev LI TT) (aj TT) vw) [(2,.ptr .own (aP .own ⟨⟨[],[]⟩,[],[],0,0⟩)),(5,.row .own 9 T),(12,.ptr .own (aP .own ⟨d,au,bs,nx,sq⟩)),(13,.int .i64 i),(14,.bool true),(15,.int .i64 ((i+1:Nat):Int))]=
  some (.exit 4,[(2,.ptr .own (aP .own ⟨⟨[],[]⟩,[],[],0,0⟩)),(5,.row .own 9 T),(12,.ptr .own (aP .own ⟨d,au,bs,nx,sq⟩)),(13,.int .i64 i),(14,.bool (!oL all i all[i])),(15,.int .i64 all.length),(83,.bool false)]):=by
 have:=ic (xt:=4) (f:=ai (ev LI TT) (aj TT) vw) (all.drop (i+1)) (λj (g:Bool)=>[(2,.ptr .own (aP .own ⟨⟨[],[]⟩,[],[],0,0⟩)),(5,.row .own 9 T),(12,.ptr .own (aP .own ⟨d,au,bs,nx,sq⟩)),(13,.int .i64 i),(14,.bool g),(15,.int .i64 ((i+1+j:Nat):Int))]) (λ_ (g:Bool) x=>g && !(decide (x.seq=(all[i]).seq)||jV x.obj (all[i]).obj))
  (λg=>[(2,.ptr .own (aP .own ⟨⟨[],[]⟩,[],[],0,0⟩)),(5,.row .own 9 T),(12,.ptr .own (aP .own ⟨d,au,bs,nx,sq⟩)),(13,.int .i64 i),(14,.bool g),(15,.int .i64 all.length),(83,.bool false)])
  (λ_ _=>True) true trivial (λj b g hj hl _=>?_) (λ_ _ _ _ _=>trivial) (λg _=>?_)
 ·rw[P6,YX] at this;exact this
 ·rw[pK] at hj;obtain⟨hjl,rfl⟩:=aK.1 hj;obtain⟨n,hn⟩:∃n,i+1+j=n:=⟨_,rfl⟩;have hn2:i+1+(j+1)=n+1:=by omega
  simp only[hn] at hjl⊢;rw[hn2];obtain⟨q1,q2⟩:=aK.1 (hT n (by omega) hjl);obtain⟨q3,q4⟩:=aK.1 (hT i (by omega) hi);have hw:=aO n (by omega);have ff:(n:Int)<T.length:=by omega
  have u1:=abp (all[n]).obj (all[i]).obj (by have:=yx (hall _ (bh hjl)).o;omega) (by have:=yx (hall _ (bh hi)).o;omega);clear hT hj hl;generalize jV (all[n]).obj (all[i]).obj=tw at u1⊢;try simp at u1 q2 q4
  by_cases gq:(all[n]).seq=(all[i]).seq;·simp -implicitDefEqProofs [vw,CX,ff,hw,q1,q2,q3,q4,gq]
  ·cases tw;·simp -implicitDefEqProofs [vw,CX,ff,hw,q1,q2,q3,q4,gq,u1]
   ·simp -implicitDefEqProofs [vw,CX,ff,hw,q1,q2,q3,q4,gq,u1]
 ·have e:i+1+(all.drop (i+1)).length=all.length:=by rw[wh];omega
  rw[e];simp -implicitDefEqProofs [vw,CX,uu]
end M
set_option maxHeartbeats 4000000
namespace M
open Go
def YH(d:bq)(bs:List Bn)(sq:Int)(au:List Kp)(nx:Int)(all:List Kp)(p7:all.length<=15)(hall:∀k∈all,wm k)(i:Nat)(hi:i<all.length)(ho:au.length<=1000):
  ai (ev LI TT) (aj TT) vz [(2,.ptr .own (aP .own ⟨⟨[],[]⟩,[],[],0,0⟩)),(5,.row .own 9 (jb all i)),(12,.ptr .own (aP .own ⟨d,au,bs,nx,sq⟩)),(13,.int .i64 i)]=
  some (.normal,[(2,.ptr .own (aP .own ⟨⟨[],[]⟩,[],[],0,0⟩)),(5,.row .own 9 (jb all (i+1))),(12,.ptr .own (aP .own ⟨d,(nO all i (au,nx) all[i]).1,bs,(nO all i (au,nx) all[i]).2,sq⟩)),(13,.int .i64 ((i+1:Nat):Int))]):=by
 have hz:=Eb ho;have hw:=aO i (JY hi (by omega));have hk:=hall _ (bh hi);have u2:=abm (all[i]).at_ hk.a;have u1:=YE d bs sq au nx all p7 hall i hi (jb all i) (λj h1 h2=>Vp all i j h1 h2) (Ji all i);have hg:=Vp all i i (eP _) hi;have uu:=Ji all i;rw[alq all i hi];unfold nO;generalize jb all i=T at u1 hg uu⊢;obtain⟨q1,q2⟩:=aK.1 hg;have hm:=sS T i _ hg;have rX:(i:Int)<T.length:=Em.2 q1;have SI:(i:Int)<all.length:=Em.2 hi;clear hall hk hg;cases hlb:oL all i all[i]
 ·rw[hlb] at u1;try simp at u1 u2 q2 hm
  simp -implicitDefEqProofs [vz,Ir,hi,q1,rX,SI,hw,u1,u2,q2,hm,tj,hz,cM,dA]
 ·rw[hlb] at u1;try simp at u1 u2 q2 hm
  simp -implicitDefEqProofs [vz,Ir,hi,q1,rX,SI,hw,u1,u2,q2]
def YG(d:bq)(bs:List Bn)(sq:Int)(all:List Kp)(p7:all.length<=15)(hall:∀k∈all,wm k):
  aJ (ai (ev LI TT) (aj TT) vz) [(2,.ptr .own (aP .own ⟨⟨[],[]⟩,[],[],0,0⟩)),(5,.row .own 9 (all.map (aG .own))),(12,.ptr .own (aP .own ⟨d,[],bs,5,sq⟩)),(13,.int .i64 0)]=
  some (.exit 2,[(2,.ptr .own (aP .own ⟨⟨[],[]⟩,[],[],0,0⟩)),(5,.row .own 9 (jb all all.length)),(12,.ptr .own (aP .own ⟨d,(kP all).1,bs,(kP all).2,sq⟩)),(13,.int .i64 all.length),(75,.bool false)]):=by
 have:=ic (xt:=2) (f:=ai (ev LI TT) (aj TT) vz) all (λi (g:List Kp×Int)=>[(2,.ptr .own (aP .own ⟨⟨[],[]⟩,[],[],0,0⟩)),(5,.row .own 9 (jb all i)),(12,.ptr .own (aP .own ⟨d,g.1,bs,g.2,sq⟩)),(13,.int .i64 i)]) (nO all)
  (λg=>[(2,.ptr .own (aP .own ⟨⟨[],[]⟩,[],[],0,0⟩)),(5,.row .own 9 (jb all all.length)),(12,.ptr .own (aP .own ⟨d,g.1,bs,g.2,sq⟩)),(13,.int .i64 all.length),(75,.bool false)])
  (λi g=>g.1.length<=i/\i<=15) ([],5) (by simp) (λi b g hi hl hg=>?_) (λi b g hi hg=>?_) (λg hg=>?_)
 ·rw[TC,alr] at this;exact this
 ·obtain⟨_,rfl⟩:=aK.1 hi;obtain⟨au,nx⟩:=g;exact YH d bs sq au nx all p7 hall i hl (by have:=hg.1;simp only at this;omega)
 ·have hl:=(aK.1 hi).1;unfold nO;split;·omega
  ·simp;omega
 ·simp -implicitDefEqProofs [vz,Ir,Ji]
def YF(d:bq)(bs:List Bn)(m:Int)(hd:dy d=true)(hwd:cA d<=16777216)(LH:wL aY bs<=1000)(hm:0<=m/\m<100000):
  aJ (ai (ev LI TT) (aj TT) qG) [(1,.ptr .own (bW .af d)),(2,.ptr .own (aP .own ⟨⟨[],[]⟩,[],[],0,0⟩)),(3,.ref 22 [(0,0)]),(4,.int .i64 m),(5,.row .own 9 []),(6,.int .i64 5),(20,.av [.ref 22 [(0,0)],.int .i64 m]),(22,.av [.row .own 4 (bs.map aZ),.int .i64 m])]=
  some (.exit 0,[(1,.ptr .own (bW .af d)),(2,.ptr .own (aP .own ⟨⟨[],[]⟩,[],[],0,0⟩)),(3,.ref 22 [(0,0)]),(4,.int .i64 (lI bs d m).2),(5,.row .own 9 ((iw Kp.seq (lI bs d m).1).map (aG .own))),(6,.int .i64 20),(20,.av [.ref 22 [(0,0)],.int .i64 m]),(22,.av [.row .own 4 (bs.map aZ),.int .i64 m]),(27,.bool false)]):=by
 obtain⟨k0,k1,k2⟩:=lM hd
 have:=ic (xt:=0) (f:=ai (ev LI TT) (aj TT) qG) (List.range 15) (λi (g:List Kp×Int)=>[(1,.ptr .own (bW .af d)),(2,.ptr .own (aP .own ⟨⟨[],[]⟩,[],[],0,0⟩)),(3,.ref 22 [(0,0)]),(4,.int .i64 g.2),(5,.row .own 9 ((iw Kp.seq g.1).map (aG .own))),(6,.int .i64 ((5+i:Nat):Int)),(20,.av [.ref 22 [(0,0)],.int .i64 m]),(22,.av [.row .own 4 (bs.map aZ),.int .i64 m])]) (sR bs d)
  (λg=>[(1,.ptr .own (bW .af d)),(2,.ptr .own (aP .own ⟨⟨[],[]⟩,[],[],0,0⟩)),(3,.ref 22 [(0,0)]),(4,.int .i64 g.2),(5,.row .own 9 ((iw Kp.seq g.1).map (aG .own))),(6,.int .i64 20),(20,.av [.ref 22 [(0,0)],.int .i64 m]),(22,.av [.row .own 4 (bs.map aZ),.int .i64 m]),(27,.bool false)])
  (λi g=>i<=15/\tO i g) ([],m) ⟨by omega,⟨by simp,by simp,hm,by simp,by simp,by simp⟩⟩ (λi b g hi hl hg=>?_) (λi b g hi hg=>?_) (λg hg=>?_)
 ·refine zH ?_ this;simp[iw]
 ·have ux:i<15:=by simpa using hl
  obtain⟨at_,iG⟩:∃a,((5+i:Nat):Int)=a:=⟨_,rfl⟩;have ff:at_<20:=by omega
  have hw:IntKind.i64.wrap (at_+1)=at_+1:=bC (by omega) (by omega);have FD:((5+(i+1):Nat):Int)=at_+1:=by omega
  have u1:=QE d at_ (by omega);have hin:dy d=true/\(0:Int)<=at_/\at_<=19:=⟨hd,by omega,by omega⟩;rw[aA hin] at u1;have LU:=Ft d at_;have u2:=QJ (cU d at_) (by omega);have hrl:=HU (cU d at_);have ny:=HV (cU d at_);have u3:=aa9 (cI (cU d at_)).2.1 (by omega);have how:=Ue (cI (cU d at_)).2.1;have mD:=hg.2.n;have FO:(iw Kp.seq g.1).length<=15:=by rw[(Ot Kp.seq g.1).length_eq];omega
  unfold sR;rw[iG,FD];clear iG FD;generalize cI (cU d at_)=rr at u2 u3 hrl ny how⊢;obtain⟨n,bd,ok⟩:=rr;simp only at u2 u3 hrl ny how⊢;generalize ij bd=br at u3 how⊢;obtain⟨⟨op,on,ov,⟨rs,rf,rb⟩,ot⟩,tU⟩:=br;simp only at how;have u5:=KH bs ⟨op,on,ov,⟨rs,rf,rb⟩,ot⟩ (by omega) (by omega);have u6:=abo (iw Kp.seq g.1) ⟨⟨op,on,ov,⟨rs,rf,rb⟩,ot⟩,at_,n⟩ FO;rw[<-ak9] at u6;have AM:max g.2 n=if n<g.2 then g.2 else n:=by split<;>omega
  simp only at u5⊢;generalize gE bs ⟨op,on,ov,⟨rs,rf,rb⟩,ot⟩=hb at u5⊢;obtain⟨g1,g2⟩:=g;simp only at u6 AM⊢;simp at u1 u2 u3 u5 u6;cases ok;·simp -implicitDefEqProofs [qG,vu,ff,hw,u1,u2,u3]
  cases tU;·simp -implicitDefEqProofs [qG,vu,ff,hw,u1,u2,u3]
  by_cases gq:n<100000;rotate_left
  ·have pV:100000<=n:=by omega
   simp -implicitDefEqProofs [qG,vu,ff,hw,u1,u2,u3,gq,pV]
  have pV:¬100000<=n:=by omega
  cases hb;·simp -implicitDefEqProofs [qG,vu,ff,hw,u1,u2,u3,u5,u6,gq,pV,AM]
  ·simp -implicitDefEqProofs [qG,vu,ff,hw,u1,u2,u3,u5,gq,pV,AM]
 ·have ux:i<15:=by have:=(aK.1 hi).1;simpa using this
  exact⟨by omega,Ng bs d ux b hg.2⟩
 ·simp -implicitDefEqProofs [qG,vu]
def QH(d:bq)(hwd:cA d<=16777216):ev LI TT 17 [.agg (bW .af d)]=some (.agg (aP .own (yo d)),[.dead]):=by
 rw[aq (b:=CY) (rs:=[.c 2 6 true 43]) (n:=1) rfl rfl];have S7:cA d=wL wS d.cells+wL cu d.pending:=rfl;have l1:=aT (w:=wS) d.cells;have l2:=aT (w:=cu) d.pending;unfold yo;have u1:=Aa d (by omega);try simp at u1
 have u2:=abl d (by omega) (by omega);try simp at u2
 by_cases g:dy d=true;rotate_left;·have u3:=abg;rw[show dy d=false by simpa using g] at u1⊢;simp at u1 u3;simp -implicitDefEqProofs [CY,u1,u3]
 have B:=sO d;have u3:=abn d g hwd;have u4:=YF d (dK d).1 (dK d).2 g hwd (Nc d) B.2.2;have u5:=YG d (dK d).1 ((ju d).2+1) (ig d) (Nb d) (λk hk=>(HE hk).1);have O:=(Cl d).m;have hw:IntKind.i64.wrap ((ju d).2+1)=(ju d).2+1:=bC (by omega) (by omega);rw[show lI (dK d).1 d (dK d).2=ju d from rfl,show iw Kp.seq (ju d).1=ig d from rfl] at u4;have e:fB d=⟨d,(kP (ig d)).1,(dK d).1,(kP (ig d)).2,(ju d).2+1⟩:=rfl;rw[g] at u1;rw[g,aA rfl,e];clear e B O;generalize kP (ig d)=lk at u5⊢;generalize ig d=all at u4 u5;generalize ju d=od at u4 u5 hw⊢;generalize dK d=mb at u3 u4 u5⊢;obtain⟨au,nx⟩:=lk;obtain⟨od1,od2⟩:=od;obtain⟨bs,ms⟩:=mb;simp at u1 u2 u3 u4 u5;simp -implicitDefEqProofs [CY,u1,u2,u3,u4,u5,hw];all_goals (repeat' split)<;>first|rfl|omega|(simp_all;done)|(simp_all;omega)|skip
end M
set_option maxHeartbeats 4000000
namespace M
open Go
def HI(d:bq):ct (fB d)<=cA d+25000:=by have h1:=Nc d;have h2:wL bN (jP (ig d))<=15*(1300+1):=qP (λk hk=>yx (HE ((Cf _).subset hk)).1.o) (e8 (Cf _).length_le (Nb d));show cA d+wL bN (jP (ig d))+wL aY (dK d).1<=_;omega
end M
namespace M
open Go
def sV:(⟨#[97,103,101]⟩:ByteArray)=⟨dM.toArray⟩:=rfl
def aaT(q:Rq)(o:Ob)(now:Int)(h1:b9 q<=100000000)(h2:aW o<=100000000)(h3:bI o.t)(h4:bI now):ev LI TT 163 [.agg (gD .af q),.agg (bA .af o),.int .i64 now]=some (.agg (dx .own (answer q o now)),[.dead,.dead,.dead]):=by
 rw[aq (b:=vp) (rs:=[.c 6 3 true 61]) (n:=3) rfl rfl];have hw:aW o=o.path.length+wL wS o.names+wL wS o.values+aX o.resp:=rfl;have fh:aX o.resp=wL aH o.resp.fields+o.resp.body.length:=rfl;have p9:b9 q=q.path.length+wL aH q.fields+q.body.length:=rfl;have l1:=aT (w:=aH) o.resp.fields;have l2:=aT (w:=aH) q.fields;have l3:=vh (dR o.resp.fields o.t now);have l4:=Oq o.resp;have l5:=aT (w:=aH) (o.resp.fields.filter eY);have l6:=yE o.resp.fields dM (cH (dR o.resp.fields o.t now));have l7:=yE (o.resp.fields.filter eY) dM (cH (dR o.resp.fields o.t now));have l8:dM.length=3:=rfl;unfold answer;have u1:=abB o.resp (by omega);try simp at u1
 have u2:=abf q o.resp.fields (by omega) (by omega);try simp at u2
 have u3:=abi o.resp (by omega);try simp at u3
 have u4:=QD o.resp.fields o.t now (by omega) h3 h4;try simp at u4
 have u5:=tX (dR o.resp.fields o.t now);try simp at u5
 have u6:=QI o.resp.fields dM (cH (dR o.resp.fields o.t now)) (by omega);try simp at u6
 have u7:=QI (o.resp.fields.filter eY) dM (cH (dR o.resp.fields o.t now)) (by omega);try simp at u7
 have u8:=EN ⟨o.resp.status,jz o.resp.fields dM (cH (dR o.resp.fields o.t now)),o.resp.body⟩ (by unfold aX;simp only;omega);try simp at u8
 have u9:=EN ⟨304,jz (o.resp.fields.filter eY) dM (cH (dR o.resp.fields o.t now)),[]⟩ (by unfold aX;simp;omega);try simp at u9
 by_cases g1:tg q o.resp.fields=true
 ·by_cases g2:eX ⟨304,jz (o.resp.fields.filter eY) dM (cH (dR o.resp.fields o.t now)),[]⟩=true;·simp -implicitDefEqProofs [vp,u1,u2,u3,u4,u5,u6,u7,u8,u9,g1,g2,sV,kT]
  ·simp -implicitDefEqProofs [vp,u1,u2,u3,u4,u5,u6,u7,u8,u9,g1,g2,sV,kT]
 by_cases g2:eX ⟨o.resp.status,jz o.resp.fields dM (cH (dR o.resp.fields o.t now)),o.resp.body⟩=true;·simp -implicitDefEqProofs [vp,u1,u2,u3,u4,u5,u6,u7,u8,u9,g1,g2,sV,kT]
 simp -implicitDefEqProofs [vp,u1,u2,u3,u4,u5,u6,u7,u8,u9,g1,g2,sV,kT];all_goals (repeat' split)<;>first|rfl|omega|(simp_all;done)|(simp_all;omega)|skip
def Zj(q:Rq)(o:Ob)(now:Int)(h1:b9 q<=100000000)(h2:aW o<=100000000)(h3:bI o.t)(h4:bI now):ev LI TT 168 [.agg (gD .af q),.agg (bA .af o),.int .i64 now]=some (.agg (dx .own (answer q o now)),[.dead,.dead,.dead]):=by
 rw[aq (b:=uH) (rs:=[.c 6 3 true 61]) (n:=3) rfl rfl];have hw:aW o=o.path.length+wL wS o.names+wL wS o.values+aX o.resp:=rfl;have fh:aX o.resp=wL aH o.resp.fields+o.resp.body.length:=rfl;have p9:b9 q=q.path.length+wL aH q.fields+q.body.length:=rfl;have l1:=aT (w:=aH) o.resp.fields;have l2:=aT (w:=aH) q.fields;have l3:=vh (dR o.resp.fields o.t now);have l4:=Oq o.resp;have l5:=aT (w:=aH) (o.resp.fields.filter eY);have l6:=yE o.resp.fields dM (cH (dR o.resp.fields o.t now));have l7:=yE (o.resp.fields.filter eY) dM (cH (dR o.resp.fields o.t now));have l8:dM.length=3:=rfl;unfold answer;have u1:=Qv o.resp (by omega);try simp at u1
 have u2:=ZG q o.resp.fields (by omega) (by omega);try simp at u2
 have u3:=ZO o.resp (by omega);try simp at u3
 have u4:=Qg o.resp.fields o.t now (by omega) h3 h4;try simp at u4
 have u5:=Km (dR o.resp.fields o.t now);try simp at u5
 have u6:=Qk o.resp.fields dM (cH (dR o.resp.fields o.t now)) (by omega);try simp at u6
 have u7:=Qk (o.resp.fields.filter eY) dM (cH (dR o.resp.fields o.t now)) (by omega);try simp at u7
 have u8:=EJ ⟨o.resp.status,jz o.resp.fields dM (cH (dR o.resp.fields o.t now)),o.resp.body⟩ (by unfold aX;simp only;omega);try simp at u8
 have u9:=EJ ⟨304,jz (o.resp.fields.filter eY) dM (cH (dR o.resp.fields o.t now)),[]⟩ (by unfold aX;simp;omega);try simp at u9
 have DN:=Qv ⟨304,o.resp.fields.filter eY,[]⟩ (by simp only;omega);try simp at DN
 by_cases g1:tg q o.resp.fields=true
 ·by_cases g2:eX ⟨304,jz (o.resp.fields.filter eY) dM (cH (dR o.resp.fields o.t now)),[]⟩=true;·simp -implicitDefEqProofs [uH,u1,u2,u3,u4,u5,u6,u7,u8,u9,DN,g1,g2,sV,kT]
  ·simp -implicitDefEqProofs [uH,u1,u2,u3,u4,u5,u6,u7,u8,u9,DN,g1,g2,sV,kT]
 by_cases g2:eX ⟨o.resp.status,jz o.resp.fields dM (cH (dR o.resp.fields o.t now)),o.resp.body⟩=true;·simp -implicitDefEqProofs [uH,u1,u2,u3,u4,u5,u6,u7,u8,u9,DN,g1,g2,sV,kT]
 simp -implicitDefEqProofs [uH,u1,u2,u3,u4,u5,u6,u7,u8,u9,DN,g1,g2,sV,kT];all_goals (repeat' split)<;>first|rfl|omega|(simp_all;done)|(simp_all;omega)|skip
end M
set_option maxHeartbeats 4000000
namespace M
open Go
def uj(a:Rp)(x:Se):Bool:=decide (x.resp.status=200) && decide (x.t<=a.obj.t) && decide (x.q.method=1) && decide (x.q.path=a.obj.path) && decide (x.resp.body=a.obj.resp.body) && pF a.obj.names a.obj.values x.q.fields
def ow(c:Ca)(a:Rp):Int:=kf (uj a) c.seen
def H7{a:Rp}(h:cj a<=100000000):a.obj.names.length<=100000000/\a.obj.values.length<=100000000:=by have q1:=aT (w:=wS) a.obj.names;have q1':=aT (w:=wS) a.obj.values;have q2:aW a.obj=a.obj.path.length+wL wS a.obj.names+wL wS a.obj.values+aX a.obj.resp:=rfl;have q3:cj a=b9 a.q+aX a.resp+aW a.obj:=rfl;omega
def U5{c:Ca}(h:bR c<=100000000):∀x∈c.seen,x.q.fields.length<=100000000:=by
 intro x hx;have h1:=eZ (w:=dh) hx;have h2:dh x=b9 x.q+aX x.resp:=rfl;have h3:b9 x.q=x.q.path.length+wL aH x.q.fields+x.q.body.length:=rfl;have h4:=aT (w:=aH) x.q.fields;have h5:wL dh c.seen<=bR c:=by unfold bR;omega
 omega
def KR{c:Ca}(h:bR c<=100000000):c.seen.length<=100000000:=by
 have h4:=aT (w:=dh) c.seen;have h5:wL dh c.seen<=bR c:=by unfold bR;omega
 omega
def XM(c:Ca)(a:Rp)(hc:bR c<=100000000)(ha:cj a<=100000000)(g:Int)(hinv:True):aJ (ai (ev LI TT) (aj TT) o8) [(2,.ptr .own (bU .af c)),(3,.ptr .own (cC .af a)),(5,.int .i64 g),(6,.int .i64 0)]=some (.exit 0,[(2,.ptr .own (bU .af c)),(3,.ptr .own (cC .af a)),(5,.int .i64 (foldI (λi g b=>if uj a b=true then (i:Int) else g) 0 (c.seen) g)),(6,.int .i64 (c.seen).length),(12,.bool false)]):=by
 refine ic (f:=ai (ev LI TT) (aj TT) o8) (c.seen) (λi (g:Int)=>[(2,.ptr .own (bU .af c)),(3,.ptr .own (cC .af a)),(5,.int .i64 g),(6,.int .i64 i)]) (λi g b=>if uj a b=true then (i:Int) else g) (λg=>[(2,.ptr .own (bU .af c)),(3,.ptr .own (cC .af a)),(5,.int .i64 g),(6,.int .i64 (c.seen).length),(12,.bool false)]) (λi (g:Int)=>True) g hinv (λi b g hi hl hinv=>?_) (λi b g hi hinv=>?_) (λg hinv=>?_)
 ·have hw:=aO i (by have:=KR hc;omega);obtain⟨_,rfl⟩:=aK.1 hi;have hs:=QM a.obj.names a.obj.values (c.seen[i]).q.fields (by have:=H7 ha;omega) (by have:=H7 ha;omega) (by have:=U5 hc _ (bh hl);omega);unfold uj;by_cases g1:(c.seen[i]).resp.status=200;rotate_left;·simp -implicitDefEqProofs [o8,s6,hl,hw,g1]
  by_cases g2:(c.seen[i]).t<=a.obj.t;rotate_left;·simp -implicitDefEqProofs [o8,s6,hl,hw,g1,g2]
  by_cases g3:(c.seen[i]).q.method=1;rotate_left;·simp -implicitDefEqProofs [o8,s6,hl,hw,g1,g2,g3]
  by_cases g4:(c.seen[i]).q.path=a.obj.path;rotate_left;·simp -implicitDefEqProofs [o8,s6,hl,hw,g1,g2,g3,eq_false g4]
  by_cases g5:(c.seen[i]).resp.body=a.obj.resp.body;rotate_left;·simp -implicitDefEqProofs [o8,s6,hl,hw,g1,g2,g3,eq_true g4,eq_false g5]
  cases g6:pF a.obj.names a.obj.values (c.seen[i]).q.fields<;>rw[g6] at hs;all_goals
  simp -implicitDefEqProofs [o8,s6,hl,hw,g1,g2,g3,eq_true g4,eq_true g5,hs]
 ·trivial
 ·simp -implicitDefEqProofs [o8,s6]
def aaX(c:Ca)(a:Rp)(hc:bR c<=100000000)(ha:cj a<=100000000):ev LI TT 164 [.agg (bU .af c),.agg (cC .af a)]=some (.int .i64 (ow c a),[.dead,.dead]):=by rw[aq (b:=Ia) (rs:=[.t 4]) (n:=2) rfl rfl];have u1:=XM c a hc ha (-1) trivial;rw[show foldI (λi g b=>if uj a b=true then (i:Int) else g) 0 c.seen (-1)=ow c a from rfl] at u1;simp at u1;simp -implicitDefEqProofs [Ia,u1];all_goals (repeat' split)<;>first|rfl|omega|(simp_all;done)|(simp_all;omega)|skip
def WI(c:Ca)(a:Rp)(hc:bR c<=100000000)(ha:cj a<=100000000):
  aJ (ai (ev LI TT) (aj TT) oE) [(0,.ptr .af (bU .af c)),(3,.ptr .own (cC .af a)),(5,.int .i64 (c.seen.length - 1))]=if ow c a<0 then some (.exit 0,[(0,.ptr .af (bU .af c)),(3,.ptr .own (cC .af a)),(5,.int .i64 (-1)),(14,.bool false)]) else some (.ret,[(4,.int .i64 (ow c a))]):=by
 have hcs:=KR hc;refine aiT (f:=ai (ev LI TT) (aj TT) oE) c.seen (λi=>[(0,.ptr .af (bU .af c)),(3,.ptr .own (cC .af a)),(5,.int .i64 i)]) (uj a) (λi=>[(4,.int .i64 i)]) _ (λi b hi hl=>?_) ?_
 ·have hw:IntKind.i64.wrap ((i:Int) - 1)=(i:Int) - 1:=bC (by omega) (by omega);obtain⟨_,rfl⟩:=aK.1 hi;have hs:=Qr a.obj.names a.obj.values (c.seen[i]).q.fields (by have:=H7 ha;omega) (by have:=H7 ha;omega) (by have:=U5 hc _ (bh hl);omega);unfold uj;by_cases g1:(c.seen[i]).resp.status=200;rotate_left;·simp -implicitDefEqProofs [oE,sx,hl,hw,g1]
  by_cases g2:(c.seen[i]).t<=a.obj.t;rotate_left;·simp -implicitDefEqProofs [oE,sx,hl,hw,g1,g2]
  by_cases g3:(c.seen[i]).q.method=1;rotate_left;·simp -implicitDefEqProofs [oE,sx,hl,hw,g1,g2,g3]
  by_cases g4:(c.seen[i]).q.path=a.obj.path;rotate_left;·simp -implicitDefEqProofs [oE,sx,hl,hw,g1,g2,g3,eq_false g4]
  by_cases g5:(c.seen[i]).resp.body=a.obj.resp.body;rotate_left;·simp -implicitDefEqProofs [oE,sx,hl,hw,g1,g2,g3,eq_true g4,eq_false g5]
  cases g6:pF a.obj.names a.obj.values (c.seen[i]).q.fields<;>rw[g6] at hs;all_goals simp -implicitDefEqProofs [oE,sx,hl,hw,g1,g2,g3,eq_true g4,eq_true g5,hs]
 ·simp -implicitDefEqProofs [oE,sx]
def Zm(c:Ca)(a:Rp)(hc:bR c<=100000000)(ha:cj a<=100000000):ev LI TT 169 [.ptr .af (bU .af c),.agg (cC .af a)]=some (.int .i64 (ow c a),[.dead,.dead]):=by
 rw[aq (b:=A6) (rs:=[.t 4]) (n:=2) rfl rfl];have h:=WI c a hc ha;have hcs:=KR hc;have hw:IntKind.i64.wrap ((c.seen.length:Int) - 1)=(c.seen.length:Int) - 1:=bC (by omega) (by omega);by_cases h0:ow c a<0;·have e:ow c a=-1:=aiE h0;rw[aA h0] at h;simp at h;simp -implicitDefEqProofs [A6,h,hw,e]
 rw[aE h0] at h;simp at h;simp -implicitDefEqProofs [A6,h,hw];all_goals (repeat' split)<;>first|rfl|omega|(simp_all;done)|(simp_all;omega)|skip
end M
set_option maxHeartbeats 4000000
namespace M
open Go
def uq(fs:List aL)(t now:Int):Bool:=decide (dR fs t now<(jF fs).rj) && !(jF fs).nc
def pz(a b:bF):Bool:=decide (a.status=b.status) && decide (a.body=b.body) && decide (a.fields=b.fields)
def r8(c:Ca)(a:Rp):Bool:=uq a.obj.resp.fields a.obj.t a.t && decide (a.obj.path=a.q.path) && pF a.obj.names a.obj.values a.q.fields && decide (a.q.method=1) && !(jF a.q.fields).nc && !(jF a.q.fields).ns && pz a.resp (answer a.q a.obj a.t) && decide (0<=ow c a)
def xL(c:Ca):Bool:=iP c && aN (λa:Rp=> !(decide (a.kind=1) && !r8 c a)) c.sent
def aa8(fs:List aL)(hb:wL aH fs<=1073741824):ev LI TT 211 [.row .af 2 (fs.map aF)]=some (.int .i64 ((jF fs).rj),[.dead]):=by
 rw[aq (b:=Ip) (rs:=[.t 2]) (n:=1) rfl rfl];have u1:=EL fs hb;try simp at u1
 simp -implicitDefEqProofs [Ip,u1];all_goals (repeat' split)<;>first|rfl|omega|(simp_all;done)|(simp_all;omega)|skip
def ZA(fs:List aL)(hb:wL aH fs<=1073741824):ev LI TT 221 [.row .af 2 (fs.map aF)]=some (.int .i64 ((jF fs).rj),[.dead]):=by
 rw[aq (b:=F6) (rs:=[.t 2]) (n:=1) rfl rfl];have u1:=EH fs hb;try simp at u1
 simp -implicitDefEqProofs [F6,u1];all_goals (repeat' split)<;>first|rfl|omega|(simp_all;done)|(simp_all;omega)|skip
def aa2(fs:List aL)(t:Int)(now:Int)(hb:wL aH fs<=100000000)(h3:bI t)(h4:bI now):ev LI TT 160 [.row .af 2 (fs.map aF),.int .i64 t,.int .i64 now]=some (.bool (uq fs t now),[.dead,.dead,.dead]):=by
 rw[aq (b:=Ik) (rs:=[.t 6]) (n:=3) rfl rfl];have hfl:=aT (w:=aH) fs;unfold uq;have u1:=QD fs t now (by omega) h3 h4;try simp at u1
 have u2:=aa8 fs (by omega);try simp at u2
 have u3:=EL fs (by omega);try simp at u3
 by_cases g:dR fs t now<(jF fs).rj;all_goals
 simp -implicitDefEqProofs [Ik,u1,u2,u3,g];all_goals (repeat' split)<;>first|rfl|omega|(simp_all;done)|(simp_all;omega)|skip
def Zu(fs:List aL)(t:Int)(now:Int)(hb:wL aH fs<=100000000)(h3:bI t)(h4:bI now):ev LI TT 166 [.row .af 2 (fs.map aF),.int .i64 t,.int .i64 now]=some (.bool (uq fs t now),[.dead,.dead,.dead]):=by
 rw[aq (b:=F2) (rs:=[.t 6]) (n:=3) rfl rfl];have hfl:=aT (w:=aH) fs;unfold uq;have u1:=Qg fs t now (by omega) h3 h4;try simp at u1
 have u2:=ZA fs (by omega);try simp at u2
 have u3:=EH fs (by omega);try simp at u3
 by_cases g:dR fs t now<(jF fs).rj;all_goals
 simp -implicitDefEqProofs [F2,u1,u2,u3,g];all_goals (repeat' split)<;>first|rfl|omega|(simp_all;done)|(simp_all;omega)|skip
def abt(a:bF)(b:bF)(ha:a.fields.length<=1073741824)(hb:b.fields.length<=1073741824):ev LI TT 162 [.agg (dx .af a),.agg (dx .af b)]=some (.bool (pz a b),[.dead,.dead]):=by
 rw[aq (b:=IW) (rs:=[.t 4]) (n:=2) rfl rfl];unfold pz;have u1:=QS a.fields b.fields (by omega) (by omega);try simp at u1
 by_cases g1:a.status=b.status;all_goals by_cases g2:a.body=b.body
 all_goals
 simp -implicitDefEqProofs [IW,u1,g1,g2];all_goals (repeat' split)<;>first|rfl|omega|(simp_all;done)|(simp_all;omega)|skip
def Qz(a:bF)(b:bF)(ha:a.fields.length<=1073741824)(hb:b.fields.length<=1073741824):ev LI TT 151 [.agg (dx .af a),.agg (dx .af b)]=some (.bool (pz a b),[.dead,.dead]):=by
 rw[aq (b:=GH) (rs:=[.t 4]) (n:=2) rfl rfl];unfold pz;have u1:=QW a.fields b.fields (by omega);try simp at u1
 by_cases g1:a.status=b.status;all_goals by_cases g2:a.body=b.body
 all_goals
 simp -implicitDefEqProofs [GH,u1,g1,g2];all_goals (repeat' split)<;>first|rfl|omega|(simp_all;done)|(simp_all;omega)|skip
def P7(q:Rq)(o:Ob)(now:Int)(h:aW o<=100000000):(answer q o now).fields.length<=1073741824:=by
 have hw:aW o=o.path.length+wL wS o.names+wL wS o.values+aX o.resp:=rfl;have fh:aX o.resp=wL aH o.resp.fields+o.resp.body.length:=rfl;have l1:=aT (w:=aH) o.resp.fields;have l3:=vh (dR o.resp.fields o.t now);have l4:=Oq o.resp;have l5:=aT (w:=aH) (o.resp.fields.filter eY);have l6:=yE o.resp.fields dM (cH (dR o.resp.fields o.t now));have l7:=yE (o.resp.fields.filter eY) dM (cH (dR o.resp.fields o.t now));have l8:dM.length=3:=rfl;have m1:=aT (w:=aH) (jz o.resp.fields dM (cH (dR o.resp.fields o.t now)));have m2:=aT (w:=aH) (jz (o.resp.fields.filter eY) dM (cH (dR o.resp.fields o.t now)));unfold answer;by_cases g1:tg q o.resp.fields=true
 ·simp only[g1,↓reduceIte,kT];split;·simp only;omega
  ·simp only;omega
 ·simp only[g1];split;·rename_i h;exact absurd h (by simp)
  ·split;·simp only;omega
   ·omega
def abq(c:Ca)(a:Rp)(hc:bR c<=100000000)(ha:cj a<=100000000)(h3:bI a.obj.t)(h4:bI a.t):ev LI TT 92 [.agg (bU .af c),.agg (cC .af a)]=some (.bool (r8 c a),[.dead,.dead]):=by
 rw[aq (b:=nY) (rs:=[.t 4]) (n:=2) rfl rfl];have q3:cj a=b9 a.q+aX a.resp+aW a.obj:=rfl;have q4:aW a.obj=a.obj.path.length+wL wS a.obj.names+wL wS a.obj.values+aX a.obj.resp:=rfl;have q5:aX a.obj.resp=wL aH a.obj.resp.fields+a.obj.resp.body.length:=rfl;have q6:b9 a.q=a.q.path.length+wL aH a.q.fields+a.q.body.length:=rfl;have q7:aX a.resp=wL aH a.resp.fields+a.resp.body.length:=rfl;have l1:=aT (w:=aH) a.resp.fields;have l2:=aT (w:=aH) a.q.fields;have l3:=aT (w:=wS) a.obj.names;have l4:=aT (w:=wS) a.obj.values;have l5:=P7 a.q a.obj a.t (by omega);unfold r8;have u1:=EL a.q.fields (by omega);try simp at u1
 have u2:=aa2 a.obj.resp.fields a.obj.t a.t (by omega) h3 h4;try simp at u2
 have u3:=QM a.obj.names a.obj.values a.q.fields (by omega) (by omega) (by omega);try simp at u3
 have u4:=aaT a.q a.obj a.t (by omega) (by omega) h3 h4;try simp at u4
 have u5:=abt a.resp (answer a.q a.obj a.t) (by omega) l5;try simp at u5
 have u6:=aaX c a hc ha;try simp at u6
 generalize uq a.obj.resp.fields a.obj.t a.t=b1 at u2;generalize pF a.obj.names a.obj.values a.q.fields=b2 at u3;generalize answer a.q a.obj a.t=r at u4 u5;generalize pz a.resp r=b3 at u5;generalize jF a.q.fields=cc at u1;obtain⟨c1,c2,c3,c4,c5,c6⟩:=cc;simp only at u1;generalize ow c a=n at u6;cases b1;·simp -implicitDefEqProofs [nY,u1,u2]
 by_cases g1:a.obj.path=a.q.path;rotate_left;·simp -implicitDefEqProofs [nY,u1,u2,eq_false g1]
 cases b2;·simp -implicitDefEqProofs [nY,u1,u2,u3,eq_true g1]
 by_cases g2:a.q.method=1;rotate_left;·simp -implicitDefEqProofs [nY,u1,u2,u3,eq_true g1,g2]
 rw[g2] at u4;cases c2;rotate_left;·simp -implicitDefEqProofs [nY,u1,u2,u3,eq_true g1,g2]
 cases c1;rotate_left;·simp -implicitDefEqProofs [nY,u1,u2,u3,eq_true g1,g2]
 cases b3;·simp -implicitDefEqProofs [nY,u1,u2,u3,u4,u5,eq_true g1,g2]
 simp -implicitDefEqProofs [nY,u1,u2,u3,u4,u5,u6,eq_true g1,g2];all_goals (repeat' split)<;>first|rfl|omega|(simp_all;done)|(simp_all;omega)|skip
def Zn(c:Ca)(a:Rp)(hc:bR c<=100000000)(ha:cj a<=100000000)(h3:bI a.obj.t)(h4:bI a.t):ev LI TT 94 [.ptr .af (bU .af c),.agg (cC .af a)]=some (.bool (r8 c a),[.dead,.dead]):=by
 rw[aq (b:=nB) (rs:=[.t 4]) (n:=2) rfl rfl];have q3:cj a=b9 a.q+aX a.resp+aW a.obj:=rfl;have q4:aW a.obj=a.obj.path.length+wL wS a.obj.names+wL wS a.obj.values+aX a.obj.resp:=rfl;have q5:aX a.obj.resp=wL aH a.obj.resp.fields+a.obj.resp.body.length:=rfl;have q6:b9 a.q=a.q.path.length+wL aH a.q.fields+a.q.body.length:=rfl;have q7:aX a.resp=wL aH a.resp.fields+a.resp.body.length:=rfl;have l1:=aT (w:=aH) a.resp.fields;have l2:=aT (w:=aH) a.q.fields;have l3:=aT (w:=wS) a.obj.names;have l4:=aT (w:=wS) a.obj.values;have l5:=P7 a.q a.obj a.t (by omega);unfold r8;have u1:=EH a.q.fields (by omega);try simp at u1
 have u2:=Zu a.obj.resp.fields a.obj.t a.t (by omega) h3 h4;try simp at u2
 have u3:=Qr a.obj.names a.obj.values a.q.fields (by omega) (by omega) (by omega);try simp at u3
 have u4:=Zj a.q a.obj a.t (by omega) (by omega) h3 h4;try simp at u4
 have u5:=Qz a.resp (answer a.q a.obj a.t) (by omega) l5;try simp at u5
 have u6:=Zm c a hc ha;try simp at u6
 generalize uq a.obj.resp.fields a.obj.t a.t=b1 at u2;generalize pF a.obj.names a.obj.values a.q.fields=b2 at u3;generalize answer a.q a.obj a.t=r at u4 u5;generalize pz a.resp r=b3 at u5;generalize jF a.q.fields=cc at u1;obtain⟨c1,c2,c3,c4,c5,c6⟩:=cc;simp only at u1;generalize ow c a=n at u6;cases b1;·simp -implicitDefEqProofs [nB,nC,oF,oG,oH,u1,u2]
 by_cases g1:a.obj.path=a.q.path;rotate_left;·simp -implicitDefEqProofs [nB,nC,oF,oG,oH,u1,u2,eq_false g1]
 cases b2;·simp -implicitDefEqProofs [nB,nC,oF,oG,oH,u1,u2,u3,eq_true g1]
 by_cases g2:a.q.method=1;rotate_left;·simp -implicitDefEqProofs [nB,nC,oF,oG,oH,u1,u2,u3,eq_true g1,g2]
 rw[g2] at u4;cases c2;rotate_left;·simp -implicitDefEqProofs [nB,nC,oF,oG,oH,u1,u2,u3,eq_true g1,g2]
 cases c1;rotate_left;·simp -implicitDefEqProofs [nB,nC,oF,oG,oH,u1,u2,u3,eq_true g1,g2]
 cases b3;·simp -implicitDefEqProofs [nB,nC,oF,oG,oH,u1,u2,u3,u4,u5,eq_true g1,g2]
 simp -implicitDefEqProofs [nB,u1,u2,u3,u4,u5,u6,eq_true g1,g2,nC,oF,oG,oH];all_goals (repeat' split)<;>first|rfl|omega|(simp_all;done)|(simp_all;omega)|skip
end M
set_option maxHeartbeats 4000000
namespace M
open Go
def qm(c:Ca)(a:Rp):Bool:= !(decide (a.kind=1) && !r8 c a)
def Tn(c:Ca):xL c=(iP c && aN (qm c) c.sent):=rfl
def UR{c:Ca}{x:Rp}(hx:x∈c.sent):cj x<=bR c:=by have h1:=eZ (w:=cj) hx;have h5:=wJ c;omega
def XW(c:Ca)(hc:bR c<=100000000)(k:oo c):aJ (ai (ev LI TT) (aj TT) yO) [(1,.ptr .own (bU .af c)),(3,.int .i64 0)]=if aN (qm c) (c.sent)=true then some (.exit 0,[(1,.ptr .own (bU .af c)),(3,.int .i64 (c.sent).length),(11,.bool false)]) else some (.ret,[(2,.bool false)]):=by
 refine cW (f:=ai (ev LI TT) (aj TT) yO) (c.sent) (λi=>[(1,.ptr .own (bU .af c)),(3,.int .i64 i)]) (qm c) _ _ (λi b hi hl=>?_) ?_
 ·have hw:=aO i (by have:=aT (w:=cj) c.sent;have:=wJ c;omega);obtain⟨_,rfl⟩:=aK.1 hi;have ho:=UR (bh hl);have kx:=k.MA.2 _ (bh hl);have u1:=abq c c.sent[i] hc (by omega) kx.BH.uT kx.uT;try simp at u1
  unfold qm;by_cases g1:(c.sent[i]).kind=1;rotate_left;·simp -implicitDefEqProofs [yO,Io,hl,hw,g1]
  rw[g1] at u1;cases hh:r8 c c.sent[i]<;>rw[hh] at u1;all_goals
  simp -implicitDefEqProofs [yO,Io,hl,hw,u1,hh,g1];all_goals (repeat' split)<;>first|rfl|omega|(simp_all;done)|(simp_all;omega)|skip
 ·simp -implicitDefEqProofs [yO,Io]
def aa7(c:Ca)(hc:bR c<=100000000)(k:oo c):ev LI TT 36 [.agg (bU .af c)]=some (.bool (xL c),[.dead]):=by
 rw[aq (b:=CV) (rs:=[.t 2]) (n:=1) rfl rfl];rw[Tn];have u1:=KG c hc;try simp at u1
 have u2:=XW c hc k;try simp at u2
 generalize iP c=b1 at u1;cases b1;·simp -implicitDefEqProofs [CV,u1]
 cases h2:aN (qm c) c.sent<;>rw[h2] at u2;all_goals try simp at u2
 all_goals
 simp -implicitDefEqProofs [CV,u1,u2];all_goals (repeat' split)<;>first|rfl|omega|(simp_all;done)|(simp_all;omega)|skip
def WU(c:Ca)(hc:bR c<=100000000)(k:oo c):aJ (ai (ev LI TT) (aj TT) xo) [(1,.ptr .own (bU .af c)),(8,.az 1 [] 0 9),(9,.row .af 18 (c.sent.map (cC .af))),(10,.int .i64 c.sent.length),(11,.int .i64 0)]=if aN (qm c) (c.sent)=true then some (.exit 0,[(1,.ptr .own (bU .af c)),(8,.az 1 [] 0 9),(9,.row .af 18 (c.sent.map (cC .af))),(10,.int .i64 c.sent.length),(11,.int .i64 (c.sent).length),(12,.bool false)]) else some (.ret,[(2,.bool false)]):=by
 refine cW (f:=ai (ev LI TT) (aj TT) xo) (c.sent) (λi=>[(1,.ptr .own (bU .af c)),(8,.az 1 [] 0 9),(9,.row .af 18 (c.sent.map (cC .af))),(10,.int .i64 c.sent.length),(11,.int .i64 i)]) (qm c) _ _ (λi b hi hl=>?_) ?_
 ·have hw:=aO i (by have:=aT (w:=cj) c.sent;have:=wJ c;omega);obtain⟨_,rfl⟩:=aK.1 hi;have ho:=UR (bh hl);have kx:=k.MA.2 _ (bh hl);have u1:=Zn c c.sent[i] hc (by omega) kx.BH.uT kx.uT;try simp at u1
  unfold qm;by_cases g1:(c.sent[i]).kind=1;rotate_left;·simp -implicitDefEqProofs [xo,F5,hl,hw,g1]
  rw[g1] at u1;cases hh:r8 c c.sent[i]<;>rw[hh] at u1;all_goals
  simp -implicitDefEqProofs [xo,F5,hl,hw,u1,hh,g1];all_goals (repeat' split)<;>first|rfl|omega|(simp_all;done)|(simp_all;omega)|skip
 ·simp -implicitDefEqProofs [xo,F5]
def Zz(c:Ca)(hc:bR c<=100000000)(k:oo c):ev LI TT 38 [.agg (bU .af c)]=some (.bool (xL c),[.dead]):=by
 rw[aq (b:=Bf) (rs:=[.t 2]) (n:=1) rfl rfl];rw[Tn];have u1:=Kj c hc;try simp at u1
 have u2:=WU c hc k;try simp at u2
 generalize iP c=b1 at u1;cases b1;·simp -implicitDefEqProofs [Bf,u1]
 cases h2:aN (qm c) c.sent<;>rw[h2] at u2;all_goals try simp at u2
 all_goals
 simp -implicitDefEqProofs [Bf,u1,u2];all_goals (repeat' split)<;>first|rfl|omega|(simp_all;done)|(simp_all;omega)|skip
end M
set_option maxHeartbeats 4000000
namespace M
open Go
def fu(d:bq)(keep:List Bool):bq:=⟨nJ (gG keep false) d.cells d.pending,[]⟩
def Ri{d:bq}(keep:List Bool)(h:dy d=true):dy (fu d keep)=true:=by obtain⟨h0,h1,h1'⟩:=lM h;have:=TA (gG keep false) d.cells d.pending;unfold dy fu;simp only[this,h1];rfl
def Zt(d:bq)(h:dy d=true):ev LI TT 28 [.agg (bW .af d)]=some (.agg (bW .own (ew d)),[.dead]):=by
 rw[aq (b:=F1) (rs:=[.c 2 2 true 39]) (n:=1) rfl rfl];obtain⟨h0,h1,h1'⟩:=lM h;have hw:d.cells.length<=1073741824:=by omega
 have u1:=Kk d (by omega);try simp at u1
 have u2:=ZS d (by omega) (by omega);try simp at u2
 have u3:=Zr d h;try simp at u3
 rw[h] at u1;simp -implicitDefEqProofs [F1,u1,u2,u3];all_goals (repeat' split)<;>first|rfl|omega|(simp_all;done)|(simp_all;omega)|skip
def PW(d:bq)(keep:List Bool)(hb:d.pending.length<=9223372036854775807)(ho:EC d.pending)(hk:keep.length<=9223372036854775807)(cs:List ag)(hinv:cs.length=20):aJ (ai (ev LI TT) (aj TT) xj) [(1,.row .af 1 (keep.map eB)),(2,.ptr .own (bW .af d)),(4,.ptr .own [.row .own 1 [],.row .own 2 []]),(5,.ptr .own [.row .own 1 ((cs).map eS),.row .own 2 []]),(16,.az 2 [] 0 1),(17,.row .af 2 (d.pending.map eW)),(18,.int .i64 d.pending.length),(19,.int .i64 0)]=some (.exit 0,[(1,.row .af 1 (keep.map eB)),(2,.ptr .own (bW .af d)),(4,.ptr .own [.row .own 1 [],.row .own 2 []]),(5,.ptr .own [.row .own 1 (((foldI (hU (gG keep false)) 0 (d.pending) cs)).map eS),.row .own 2 []]),(16,.az 2 [] 0 1),(17,.row .af 2 (d.pending.map eW)),(18,.int .i64 d.pending.length),(19,.int .i64 (d.pending).length),(20,.bool false)]):=by
 refine ic (f:=ai (ev LI TT) (aj TT) xj) (d.pending) (λi (cs:List ag)=>[(1,.row .af 1 (keep.map eB)),(2,.ptr .own (bW .af d)),(4,.ptr .own [.row .own 1 [],.row .own 2 []]),(5,.ptr .own [.row .own 1 ((cs).map eS),.row .own 2 []]),(16,.az 2 [] 0 1),(17,.row .af 2 (d.pending.map eW)),(18,.int .i64 d.pending.length),(19,.int .i64 i)]) (hU (gG keep false)) (λcs=>[(1,.row .af 1 (keep.map eB)),(2,.ptr .own (bW .af d)),(4,.ptr .own [.row .own 1 [],.row .own 2 []]),(5,.ptr .own [.row .own 1 ((cs).map eS),.row .own 2 []]),(16,.az 2 [] 0 1),(17,.row .af 2 (d.pending.map eW)),(18,.int .i64 d.pending.length),(19,.int .i64 (d.pending).length),(20,.bool false)]) (λi (cs:List ag)=>cs.length=20) cs hinv (λi b cs hi hl hinv=>?_) (λi b cs hi hinv=>?_) (λcs hinv=>?_)
 ·have hw:=aO i (by first|omega|(simp at hl;omega));obtain⟨_,rfl⟩:=aK.1 hi;have h1:=ho _ (bh hl);have h2:(d.pending[i]).at_.toNat<cs.length:=by omega
  by_cases h4:i<keep.length;rotate_left;·simp -implicitDefEqProofs [xj,FU,hl,hw,h1,h2,hU,gG,h4]
  cases h5:keep[i];all_goals
  simp -implicitDefEqProofs [xj,FU,hl,hw,h1,h2,hU,gG,h4,h5]
 ·rw[Hw];exact hinv
 ·simp -implicitDefEqProofs [xj,FU]
def Zq(d:bq)(keep:List Bool)(h:dy d=true)(hk:keep.length<=9223372036854775807):ev LI TT 29 [.agg (bW .af d),.row .af 1 (keep.map eB)]=some (.agg (bW .own (fu d keep)),[.dead,.dead]):=by
 rw[aq (b:=FV) (rs:=[.c 4 2 true 39]) (n:=2) rfl rfl];obtain⟨h0,h1,h1'⟩:=lM h;have u2:=PW d keep (by omega) h0 hk d.cells h1;try simp at u2
 have u1:=Kk d (by omega);try simp at u1
 have u2:=Tu d.cells (by omega);try simp at u2
 rw[h] at u1;have v2:=PW d keep (by omega) h0 hk d.cells h1;try simp at v2
 simp -implicitDefEqProofs [FV,u1,u2,v2,fu,nJ];all_goals (repeat' split)<;>first|rfl|omega|(simp_all;done)|(simp_all;omega)|skip
def aaY(d:bq)(keep:List Bool)(h:dy d=true)(hk:keep.length<=9223372036854775807):ev LI TT 21 [.agg (bW .af d),.row .af 1 (keep.map eB)]=some (.agg (bW .own (fu d keep)),[.dead,.dead]):=by
 rw[aq (b:=Ib) (rs:=[.c 4 2 true 39]) (n:=2) rfl rfl];obtain⟨h0,h1,h1'⟩:=lM h;unfold fu;have u1:=Aa d (by omega);try simp at u1
 have u2:=QO d keep false h hk;try simp at u2
 rw[h] at u1;simp -implicitDefEqProofs [Ib,u1,u2];all_goals (repeat' split)<;>first|rfl|omega|(simp_all;done)|(simp_all;omega)|skip
def Yk(a:List Bn)(b:List Bn)(hb:a.length<=9223372036854775807)(gW:b.length<=9223372036854775807):aJ (ai (ev LI TT) (aj TT) yY) [(0,.row .af 4 (a.map aZ)),(1,.row .af 4 (b.map aZ)),(5,.int .i64 0)]=(cG (λx=>decide (x.1≠x.2)) 0 (a.zip b)).elim (some (.exit 0,[(0,.row .af 4 (a.map aZ)),(1,.row .af 4 (b.map aZ)),(5,.int .i64 (a.zip b).length),(15,.bool false)])) λx=>some (.ret,(λ(i:Nat) b=>[(4,.bool false)]) x.1 x.2):=by
 refine oM (f:=ai (ev LI TT) (aj TT) yY) (a.zip b) (λi=>[(0,.row .af 4 (a.map aZ)),(1,.row .af 4 (b.map aZ)),(5,.int .i64 i)]) (λx=>decide (x.1≠x.2)) (λ(i:Nat) b=>[(4,.bool false)]) _ (λi b hi hl=>?_) ?_
 ·have hw:=aO i (by first|omega|(simp at hl;omega));obtain⟨_,rfl⟩:=aK.1 hi;have ha:i<a.length:=by simp at hl;omega
  have hb':i<b.length:=by simp at hl;omega
  have hbe:∀x y:Bn,(x=y)↔x.kind=y.kind/\x.a=y.a/\x.b=y.b/\x.t=y.t:=λx y=>by cases x;cases y;simp
  simp -implicitDefEqProofs [yY,IV,hl,hw,ha,hb',hbe];all_goals (repeat' split)<;>first|rfl|omega|(simp_all;done)|(simp_all;omega)|skip
 ·have hz:(a.zip b).length=min a.length b.length:=by simp
  rw[hz];by_cases hh:a.length<=b.length;·rw[kW hh];simp -implicitDefEqProofs [yY,IV]
  have h1:b.length<=a.length:=by omega
  have h2:(b.length:Int)<a.length:=by omega
  have h3:b.length<a.length:=by omega
  rw[Ph h1];simp -implicitDefEqProofs [yY,IV,h2,h3]
def QT(a:List Bn)(b:List Bn)(hb:a.length<=9223372036854775807)(gW:b.length<=9223372036854775807):ev LI TT 20 [.row .af 4 (a.map aZ),.row .af 4 (b.map aZ)]=some (.bool (decide (a=b)),[.dead,.dead]):=by
 rw[aq (b:=yZ) (rs:=[.t 4]) (n:=2) rfl rfl];have h:=Yk a b hb gW;cases g:cG (λx:Bn×Bn=>decide (x.1≠x.2)) 0 (a.zip b) with
 |some x=>obtain⟨i,x⟩:=x;obtain⟨_,h1,h2⟩:=rQ g;have h3:¬a=b:=WC (lX h1) (by simpa using h2);rw[g] at h;simp only[Option.elim] at h;simp -implicitDefEqProofs [yZ,h,h3]
 |none=>
 have h1:=Fh.1 g;rw[g] at h;simp only[Option.elim] at h;try simp at h
 by_cases hl:a.length=b.length
 ·have h2:=PK h1 hl;subst h2;try simp at h
  simp -implicitDefEqProofs [yZ,h]
 have h3:¬a=b:=λe=>hl (by rw[e]);have h4:¬(a.length:Int)=b.length:=by omega
 simp -implicitDefEqProofs [yZ,h,h3,h4];all_goals (repeat' split)<;>first|rfl|omega|(simp_all;done)|(simp_all;omega)|skip
def Dy(a b:Ob):Bool:=jV a b && decide (a.t=b.t) && pz a.resp b.resp
def ZZ(a:Ob)(b:Ob)(ha:aW a<=1073741824)(hb:aW b<=1073741824):ev LI TT 85 [.agg (bA .af a),.agg (bA .af b)]=some (.bool (Dy a b),[.dead,.dead]):=by
 rw[aq (b:=BD) (rs:=[.t 4]) (n:=2) rfl rfl];have hw:aW a=a.path.length+wL wS a.names+wL wS a.values+aX a.resp:=rfl;have fh:aW b=b.path.length+wL wS b.names+wL wS b.values+aX b.resp:=rfl;have p9:aX a.resp=wL aH a.resp.fields+a.resp.body.length:=rfl;have AU:aX b.resp=wL aH b.resp.fields+b.resp.body.length:=rfl;have l1:=aT (w:=aH) a.resp.fields;have l2:=aT (w:=aH) b.resp.fields;unfold Dy;have u1:=Qw a b ha hb;try simp at u1
 have u2:=Qz a.resp b.resp (by omega) (by omega);try simp at u2
 generalize jV a b=b1 at u1;generalize pz a.resp b.resp=b2 at u2;cases b1;·simp -implicitDefEqProofs [BD,u1]
 by_cases g:a.t=b.t;all_goals
 simp -implicitDefEqProofs [BD,u1,u2,g];all_goals (repeat' split)<;>first|rfl|omega|(simp_all;done)|(simp_all;omega)|skip
def nH(k x:Kp):Bool:=decide (x.at_=k.at_) && decide (x.seq=k.seq) && Dy x.obj k.obj
def ZJ(x k:Kp)(hx:aW x.obj<=1073741824)(hk:aW k.obj<=1073741824):ev LI TT 84 [.agg (aG .af x),.ptr .af (aG .af k)]=some (.bool (nH k x),[.dead,.dead]):=by
 rw[aq (b:=F9) (rs:=[.t 3]) (n:=2) rfl rfl];unfold nH;have u1:=ZZ x.obj k.obj hx hk;try simp at u1
 by_cases g1:x.at_=k.at_;all_goals by_cases g2:x.seq=k.seq
 all_goals
 simp -implicitDefEqProofs [F9,u1,g1,g2];all_goals (repeat' split)<;>first|rfl|omega|(simp_all;done)|(simp_all;omega)|skip
def lG(l:List Kp)(k:Kp):Bool:= !aN (λx=> !nH k x) l
def WZ(m s:Sh)(hm:ct m<=1073741824)(hs:ct s<=1073741824):aJ (ai (ev LI TT) (aj TT) Bq) [(0,.ptr .af (aP .af m)),(1,.ptr .af (aP .af s)),(8,.ptr .af (aP .af s)),(9,.ptr .af (aP .af s)),(10,.ptr .af ((aP .af s).drop 2)),(11,.row .af 9 (s.au.map (aG .af))),(12,.int .i64 s.au.length),(13,.int .i64 0)]=if aN (lG m.au) (s.au)=true then some (.exit 0,[(0,.ptr .af (aP .af m)),(1,.ptr .af (aP .af s)),(8,.ptr .af (aP .af s)),(9,.ptr .af (aP .af s)),(10,.ptr .af ((aP .af s).drop 2)),(11,.row .af 9 (s.au.map (aG .af))),(12,.int .i64 s.au.length),(13,.int .i64 (s.au).length),(14,.bool false)]) else some (.ret,[(4,.bool false)]):=by
 refine cW (f:=ai (ev LI TT) (aj TT) Bq) (s.au) (λi=>[(0,.ptr .af (aP .af m)),(1,.ptr .af (aP .af s)),(8,.ptr .af (aP .af s)),(9,.ptr .af (aP .af s)),(10,.ptr .af ((aP .af s).drop 2)),(11,.row .af 9 (s.au.map (aG .af))),(12,.int .i64 s.au.length),(13,.int .i64 i)]) (lG m.au) _ _ (λi b hi hl=>?_) ?_
 ·have hw:=aO i (by have eR:ct s=cA s.aS+wL bN s.au+wL aY s.aI:=rfl;have:=aT (w:=bN) s.au;omega);obtain⟨_,rfl⟩:=aK.1 hi;have eR:ct s=cA s.aS+wL bN s.au+wL aY s.aI:=rfl;have hwm:ct m=cA m.aS+wL bN m.au+wL aY m.aI:=rfl;have hlm:=aT (w:=bN) m.au;have hk:=zu (bh hl);have u1:=KQ m.au s.au[i] 84 (nH s.au[i]) rfl (λx hx=>ZJ x s.au[i] (by have:=zu hx;omega) (by omega)) (by omega);unfold lG;generalize aN (λx=> !nH s.au[i] x) m.au=q at u1;try simp at u1
  cases q;all_goals
  simp -implicitDefEqProofs [Bq,Mj,hl,hw,u1,jT,gK,fO];all_goals (repeat' split)<;>first|rfl|omega|(simp_all;done)|(simp_all;omega)|skip
 ·simp -implicitDefEqProofs [Bq,Mj]
def ZI(m s:Sh)(hm:ct m<=1073741824)(hs:ct s<=1073741824):ev LI TT 30 [.ptr .af (aP .af m),.ptr .af (aP .af s)]=some (.bool (aN (lG m.au) s.au),[.dead,.dead]):=by
 rw[aq (b:=Ga) (rs:=[.t 4]) (n:=2) rfl rfl];have u1:=WZ m s hm hs;try simp at u1
 cases g:aN (lG m.au) s.au<;>rw[g] at u1<;>simp at u1;all_goals
 simp -implicitDefEqProofs [Ga,u1];all_goals (repeat' split)<;>first|rfl|omega|(simp_all;done)|(simp_all;omega)|skip
def ajy{a b:Ob}(ha:cX a=true)(hb:cX b=true):fm a=fm b↔a=b:=by
 constructor;·intro h;unfold fm at h;rw[aA ha,aA hb] at h;exact Zg (cand:=vj) (λr h=>T9 h) ha hb h
 ·rintro rfl;rfl
def akY(a b:Ob):Dy a b=decide (a=b):=by
 unfold Dy jV pz;rw[JM];simp only[aC,bD];obtain⟨p,n,v,⟨s,f,bd⟩,t⟩:=a;obtain⟨p',n',v',⟨s',f',bd'⟩,t'⟩:=b;simp only[Ob.mk.injEq,bF.mk.injEq];constructor;·rintro ⟨⟨⟨⟨h1,h2⟩,h3⟩,h4⟩,⟨h5,h6⟩,h7⟩;exact⟨h1,h2,h3,⟨h5,h7,h6⟩,h4⟩
 ·rintro ⟨h1,h2,h3,⟨h5,h7,h6⟩,h4⟩;exact⟨⟨⟨⟨h1,h2⟩,h3⟩,h4⟩,⟨h5,h6⟩,h7⟩
def aiC{k x:Kp}(hk:cX k.obj=true)(hx:cX x.obj=true):nH k x=(decide (x.at_=k.at_) && decide (x.seq=k.seq) && decide (fm x.obj=fm k.obj)):=by unfold nH;rw[akY];congr 1;exact decide_eq_decide.2 (ajy hx hk).symm
def Yl(s:Sh)(k:Kp)(hs:ct s<=1073741824)(hk:aW k.obj<=1073741824)(hok:cX k.obj=true)(hos:∀x∈s.au,cX x.obj=true):aJ (ai (ev LI TT) (aj TT) Dm) [(2,.ptr .own (aP .af s)),(3,.ptr .own (aG .af k)),(5,.int .i64 0)]=(cG (nH k) 0 (s.au)).elim (some (.exit 0,[(2,.ptr .own (aP .af s)),(3,.ptr .own (aG .af k)),(5,.int .i64 (s.au).length),(11,.bool false)])) λx=>some (.ret,(λ(i:Nat) b=>[(4,.bool true)]) x.1 x.2):=by
 refine oM (f:=ai (ev LI TT) (aj TT) Dm) (s.au) (λi=>[(2,.ptr .own (aP .af s)),(3,.ptr .own (aG .af k)),(5,.int .i64 i)]) (nH k) (λ(i:Nat) b=>[(4,.bool true)]) _ (λi b hi hl=>?_) ?_
 ·have hw:=aO i (by have eR:ct s=cA s.aS+wL bN s.au+wL aY s.aI:=rfl;have:=aT (w:=bN) s.au;omega);obtain⟨_,rfl⟩:=aK.1 hi;have eR:ct s=cA s.aS+wL bN s.au+wL aY s.aI:=rfl;have hx:=zu (bh hl);have u1:=KI (s.au[i]).obj (by omega);have u2:=KI k.obj (by omega);rw[aiC hok (hos _ (bh hl))];generalize fm (s.au[i]).obj=t1 at u1;generalize fm k.obj=t2 at u2;try simp at u1 u2
  by_cases g1:(s.au[i]).at_=k.at_;all_goals by_cases g2:(s.au[i]).seq=k.seq
  all_goals by_cases g3:t1=t2
  all_goals
  simp -implicitDefEqProofs [Dm,Og,hl,hw,u1,u2,g1,g2,g3];all_goals (repeat' split)<;>first|rfl|omega|(simp_all;done)|(simp_all;omega)|skip
 ·simp -implicitDefEqProofs [Dm,Og]
def abr(s:Sh)(k:Kp)(hs:ct s<=1073741824)(hk:aW k.obj<=1073741824)(hok:cX k.obj=true)(hos:∀x∈s.au,cX x.obj=true):ev LI TT 19 [.agg (aP .af s),.agg (aG .af k)]=some (.bool (lG s.au k),[.dead,.dead]):=by
 rw[aq (b:=Dn) (rs:=[.t 4]) (n:=2) rfl rfl];have u1:=Yl s k hs hk hok hos;try simp at u1
 unfold lG;rw[<-Lm (nH k) s.au 0];cases g:cG (nH k) 0 s.au with
 |none=>rw[g] at u1;simp at u1;simp -implicitDefEqProofs [Dn,u1]
 |some x=>
 rw[g] at u1;simp at u1;simp -implicitDefEqProofs [Dn,u1];all_goals (repeat' split)<;>first|rfl|omega|(simp_all;done)|(simp_all;omega)|skip
noncomputable def uS(c:Ca):Bool:=iP c && aN (lG (fB (ew c.ax.aS)).au) c.ax.au && decide ((fB (ew c.ax.aS)).aI=c.ax.aI) && decide ((fB (fu c.ax.aS [])).aI=c.ax.aI)
def Ze(x y:Bn):(x=y)↔x.kind=y.kind/\x.a=y.a/\x.b=y.b/\x.t=y.t:=by cases x;cases y;simp
def Yv(ps:List (Bn×Bn))(hb:ps.length<=9223372036854775807):aJ (ai (ev LI TT) (aj TT) DW) [(0,.row .af 4 (ps.map λx=>aZ x.1)),(1,.row .af 4 (ps.map λx=>aZ x.2)),(12,.int .i64 ps.length),(13,.int .i64 0)]=if aN cD (ps)=true then some (.exit 0,[(0,.row .af 4 (ps.map λx=>aZ x.1)),(1,.row .af 4 (ps.map λx=>aZ x.2)),(12,.int .i64 ps.length),(13,.int .i64 ps.length),(14,.bool false)]) else some (.ret,[(4,.bool false)]):=by
 refine cW (f:=ai (ev LI TT) (aj TT) DW) (ps) (λi=>[(0,.row .af 4 (ps.map λx=>aZ x.1)),(1,.row .af 4 (ps.map λx=>aZ x.2)),(12,.int .i64 ps.length),(13,.int .i64 i)]) cD _ _ (λi b hi hl=>?_) ?_;·have hw:=aO i (by first|omega|(simp at hl;omega));obtain⟨_,rfl⟩:=aK.1 hi;simp -implicitDefEqProofs [DW,OS,hl,hw,cD,Ze];first|done|(split<;>simp_all;done)|(split<;>simp_all<;>(intro h1 h2 h3;simp_all))
 ·simp -implicitDefEqProofs [DW,OS]
def QV(a b:List Bn)(hb:a.length<=9223372036854775807):ev LI TT 31 [.row .af 4 (a.map aZ),.row .af 4 (b.map aZ)]=some (.bool (decide (a=b)),[.dead,.dead]):=by
 rw[aq (b:=Jw) (rs:=[.t 4]) (n:=2) rfl rfl];simp -implicitDefEqProofs [Jw];by_cases h:a.length=b.length;·obtain⟨ps,rfl,rfl⟩:=mc h;have h1:=Yv ps (by simpa using hb);have h2:=ld ps;simp at h1;rw[<-h2];cases h3:aN cD ps<;>rw[h3] at h1<;>simp[h1,kZ]
 ·have:¬a=b:=λe=>h (by rw[e]);simp[this];omega
def KS{c:Ca}(h:iP c=true):lT c.ax=true:=by unfold iP at h;simp only[aC] at h;exact h.1.1.1.1
def Rj(d:bq)(keep:List Bool):cA (fu d keep)<=cA d:=by have h:=Lr (gG keep false) d.pending 0 d.cells;show wL wS (nJ (gG keep false) d.cells d.pending)+wL cu []<=wL wS d.cells+wL cu d.pending;have e:wL cu []=0:=rfl;unfold nJ;omega
def ajA{s:Sh}(h:lT s=true):∀k∈s.au,cX k.obj=true:=λk hk=>ak4 h hk
def aje{d:bq}:∀k∈(fB d).au,cX k.obj=true:=λk hk=>(HE ((Cf _).subset hk)).1.o
def Zy(c:Ca)(hc:bR c<=16000000):ev LI TT 8 [.agg (bU .af c)]=some (.bool (uS c),[.dead]):=by
 rw[aq (b:=xm) (rs:=[.t 2]) (n:=1) rfl rfl];have hwc:bR c=ct c.ax+wL cE c.bQ+wL dh c.seen+wL cj c.sent:=rfl;have eR:ct c.ax=cA c.ax.aS+wL bN c.ax.au+wL aY c.ax.aI:=rfl;have hlb:=aT (w:=aY) c.ax.aI;unfold uS;have u1:=Kj c (by omega);try simp at u1
 by_cases g:iP c=true;rotate_left;·rw[show iP c=false by simpa using g] at u1⊢;simp -implicitDefEqProofs [xm,u1]
 rw[g] at u1⊢;have hd:=(Va (KS g)).d;have hf:=R4 c.ax.aS;have jr:=Rj c.ax.aS [];have v1:=Zt c.ax.aS hd;have v2:=Qy (ew c.ax.aS) (R3 hd) (by omega);have v3:=Zq c.ax.aS [] hd (by simp);have v4:=Qy (fu c.ax.aS []) (Ri [] hd) (by omega);have m1:=HI (ew c.ax.aS);have m2:=HI (fu c.ax.aS []);have b1:=(sO (ew c.ax.aS)).2.1;have b2:=(sO (fu c.ax.aS [])).2.1;have v5:=ZI (fB (ew c.ax.aS)) c.ax (by omega) (by omega);have v6:=QV (fB (ew c.ax.aS)).aI c.ax.aI (by show (dK (ew c.ax.aS)).1.length<=_;omega);have v7:=QV (fB (fu c.ax.aS [])).aI c.ax.aI (by show (dK (fu c.ax.aS [])).1.length<=_;omega);clear b1 b2 m1 m2;generalize aN (lG (fB (ew c.ax.aS)).au) c.ax.au=q1 at v5⊢;generalize decide ((fB (ew c.ax.aS)).aI=c.ax.aI)=q2 at v6⊢;generalize decide ((fB (fu c.ax.aS [])).aI=c.ax.aI)=q3 at v7⊢;generalize fB (ew c.ax.aS)=m1 at v2 v5 v6;generalize fB (fu c.ax.aS [])=m2 at v4 v7;generalize ew c.ax.aS=d1 at v1 v2;generalize fu c.ax.aS []=d2 at v3 v4;simp at v1 v2 v3 v4 v5 v6 v7;cases q1;·simp -implicitDefEqProofs [xm,u1,v1,v2,v3,v4,v5]
 cases q2;all_goals
 simp -implicitDefEqProofs [xm,u1,v1,v2,v3,v4,v5,v6,v7];all_goals (repeat' split)<;>first|rfl|omega|(simp_all;done)|(simp_all;omega)|skip
def XV(c:Ca)(m:Sh)(hc:bR c<=16000000)(hm:ct m<=1073741824)(hok:∀k∈c.ax.au,cX k.obj=true)(hos:∀x∈m.au,cX x.obj=true):aJ (ai (ev LI TT) (aj TT) CU) [(1,.ptr .own (bU .af c)),(3,.ptr .own (aP .own m)),(4,.int .i64 0)]=if aN (lG m.au) (c.ax.au)=true then some (.exit 0,[(1,.ptr .own (bU .af c)),(3,.ptr .own (aP .own m)),(4,.int .i64 (c.ax.au).length),(18,.bool false)]) else some (.ret,[(2,.bool false)]):=by
 refine cW (f:=ai (ev LI TT) (aj TT) CU) (c.ax.au) (λi=>[(1,.ptr .own (bU .af c)),(3,.ptr .own (aP .own m)),(4,.int .i64 i)]) (lG m.au) _ _ (λi b hi hl=>?_) ?_
 ·have hw:=aO i (by have:=ET c;have:=aT (w:=bN) c.ax.au;omega);obtain⟨_,rfl⟩:=aK.1 hi;have hk:=MD (c:=c) (bh hl);have u1:=abr m c.ax.au[i] hm (by omega) (hok _ (bh hl)) hos;generalize lG m.au c.ax.au[i]=q at u1;try simp at u1
  cases q;all_goals
  simp -implicitDefEqProofs [CU,NV,hl,hw,u1];all_goals (repeat' split)<;>first|rfl|omega|(simp_all;done)|(simp_all;omega)|skip
 ·simp -implicitDefEqProofs [CU,NV]
def aa6(c:Ca)(hc:bR c<=16000000):ev LI TT 6 [.agg (bU .af c)]=some (.bool (uS c),[.dead]):=by
 rw[aq (b:=yN) (rs:=[.t 2]) (n:=1) rfl rfl];have hwc:bR c=ct c.ax+wL cE c.bQ+wL dh c.seen+wL cj c.sent:=rfl;have eR:ct c.ax=cA c.ax.aS+wL bN c.ax.au+wL aY c.ax.aI:=rfl;have hlb:=aT (w:=aY) c.ax.aI;unfold uS;have u1:=KG c (by omega);try simp at u1
 by_cases g:iP c=true;rotate_left;·rw[show iP c=false by simpa using g] at u1⊢;simp -implicitDefEqProofs [yN,u1]
 rw[g] at u1⊢;have hd:=(Va (KS g)).d;have hf:=R4 c.ax.aS;have jr:=Rj c.ax.aS [];have v1:=aa1 c.ax.aS hd;have v2:=QH (ew c.ax.aS) (by omega);rw[show yo (ew c.ax.aS)=fB (ew c.ax.aS) by unfold yo;rw[aA (R3 hd)]] at v2;have v3:=aaY c.ax.aS [] hd (by simp);have v4:=QH (fu c.ax.aS []) (by omega);rw[show yo (fu c.ax.aS [])=fB (fu c.ax.aS []) by unfold yo;rw[aA (Ri [] hd)]] at v4;have m1:=HI (ew c.ax.aS);have m2:=HI (fu c.ax.aS []);have b1:=(sO (ew c.ax.aS)).2.1;have b2:=(sO (fu c.ax.aS [])).2.1;have v5:=XV c (fB (ew c.ax.aS)) hc (by omega) (ajA (KS g)) aje;have v6:=QT (fB (ew c.ax.aS)).aI c.ax.aI (by show (dK (ew c.ax.aS)).1.length<=_;omega) (by omega);have v7:=QT (fB (fu c.ax.aS [])).aI c.ax.aI (by show (dK (fu c.ax.aS [])).1.length<=_;omega) (by omega);clear b1 b2 m1 m2;generalize decide ((fB (ew c.ax.aS)).aI=c.ax.aI)=q2 at v6⊢;generalize decide ((fB (fu c.ax.aS [])).aI=c.ax.aI)=q3 at v7⊢;generalize fB (ew c.ax.aS)=m1 at v2 v5 v6⊢;generalize fB (fu c.ax.aS [])=m2 at v4 v7;generalize ew c.ax.aS=d1 at v1 v2;generalize fu c.ax.aS []=d2 at v3 v4;cases q1:aN (lG m1.au) c.ax.au<;>rw[q1] at v5;all_goals simp at v1 v2 v3 v4 v5 v6 v7
 ·simp -implicitDefEqProofs [yN,u1,v1,v2,v3,v4,v5]
 cases q2;all_goals
 simp -implicitDefEqProofs [yN,u1,v1,v2,v3,v4,v5,v6,v7];all_goals (repeat' split)<;>first|rfl|omega|(simp_all;done)|(simp_all;omega)|skip
noncomputable def GO(c:Ca):Bool:=xL c && uR c && uS c
def Zw(c:Ca)(hc:bR c<=16000000)(k:oo c):ev LI TT 11 [.agg (bU .af c)]=some (.bool (GO c),[.dead]):=by
 rw[aq (b:=Bd) (rs:=[.t 2]) (n:=1) rfl rfl];unfold GO;have u1:=Zz c (by omega) k;try simp at u1
 have u2:=Zx c (by omega);try simp at u2
 have u3:=Zy c hc;try simp at u3
 generalize xL c=b1 at u1;generalize uR c=b2 at u2;generalize uS c=b3 at u3;cases b1;·simp -implicitDefEqProofs [Bd,u1]
 cases b2;all_goals
 simp -implicitDefEqProofs [Bd,u1,u2,u3];all_goals (repeat' split)<;>first|rfl|omega|(simp_all;done)|(simp_all;omega)|skip
def aa4(c:Ca)(hc:bR c<=16000000)(k:oo c):ev LI TT 10 [.agg (bU .af c)]=some (.bool (GO c),[.dead]):=by
 rw[aq (b:=CS) (rs:=[.t 2]) (n:=1) rfl rfl];unfold GO;have u1:=aa7 c (by omega) k;try simp at u1
 have u2:=aa5 c (by omega);try simp at u2
 have u3:=aa6 c hc;try simp at u3
 generalize xL c=b1 at u1;generalize uR c=b2 at u2;generalize uS c=b3 at u3;cases b1;·simp -implicitDefEqProofs [CS,u1]
 cases b2;all_goals
 simp -implicitDefEqProofs [CS,u1,u2,u3];all_goals (repeat' split)<;>first|rfl|omega|(simp_all;done)|(simp_all;omega)|skip
end M
set_option maxHeartbeats 4000000
namespace M
open Go
def asx(a0:Ca)(k0:oo a0):∃ps,ev LI TT 4 [.agg (bU .sl a0)]=some (.bool true,ps):=by
 rw[aq (b:=BJ) (rs:=[.t 2]) (n:=1) rfl rfl];have s0:=aam a0 1048576 k0 (by omega) (by omega);have w0:=bV 1048576 (bR a0);obtain⟨m0,e0⟩:∃m,m=aD 1048576 (bR a0):=⟨_,rfl⟩;rw[<-e0] at s0 w0;try simp at s0
 by_cases z0:m0<0;·simp -implicitDefEqProofs [BJ,s0,z0]
 have t0:=aaD a0 (by omega);try simp at t0
 have q0:=Z3 a0 a0 (by omega);try simp at q0
 have hS:=aa4 a0 (by omega) k0;have hI:=Zw a0 (by omega) k0;try simp at hS
 try simp at hI
 simp -implicitDefEqProofs [BJ,s0,z0,t0,q0,hS,hI]
end M
