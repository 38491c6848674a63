/- What the functions come to in the machine; no conditions. -/
import Derived.Test.YtcibpfbfblmedaaGreatDoorCona
set_option linter.defProp false
set_option linter.unusedSectionVars false
set_option linter.unusedVariables false
set_option linter.unusedSimpArgs false
set_option maxHeartbeats 8000000
namespace M
open Go
variable [Fd]
def Wy(d:De):Pl (ff .af d):=⟨by simp,by simp,by simp,by simp⟩
def Ml(l:List Fl)(i:Nat)(x:Fl)(h:l[i]?=some x)(g:List X->List X):(l.map (cj .own)).modify i g=(l.map (cj .own)).set i (g (cj .own x)):=rV _ i _ (by rw[cV,h];rfl) g
def OX(c:Ca)(d:De)(f:Fl)(hc:aN c<=100000000)(hq:bn d.q<=1073741824):ev LI TT 65 [.ptr .own (aI .own c),.agg (ff .af d),.agg (cj .own f)]=some (.ak [],[.ptr .own (aI .own (sC c d.client d.q f)),.dead,.dead]):=by
 rw[aE (b:=x9) (rs:=[]) (n:=3) rfl rfl];have kf:=fR c;have hl:=bg (w:=cL) c.sent;have jm:=bg (w:=cm) c.aF;have hfl:∀x∈c.aF,bn x.q<=1073741824/\x.who.length<=1073741824:=λx hx=>by have h1:=gB (w:=cm) hx;have h2:cm x=bn x.q+wL wO x.who+aU x.old:=rfl;have h3:=bg (w:=wO) x.who;exact⟨by omega,by omega⟩
 have hz0:(c.aF.length+1)*216<=140737488355328:=by omega
 have u1:=Xq c.aF (ff .af d) (Wy d) 104 (λx=>kH x.q d.q) rfl (λx hx=>XG x d (hfl x hx).1 hq) (by omega);try simp at u1
 have u2:=I9 c d.client d.q 503 (by omega) hq;try simp at u2
 unfold sC;generalize r9 c d.client d.q 503=R at u2⊢;cases g:Al c.aF d.q with
 |none=>
  unfold Al at g;rw[g] at u1;simp at u1;by_cases g2:5<=(c.aF.length:Int);·simp -implicitDefEqProofs [x9,ya,yb,BN,BO,BP,BQ,yd,BR,BS,BT,BG,yc,BH,BI,BJ,BK,BL,BM,gN,fy,e9,u1,u2,g2]
  simp -implicitDefEqProofs [x9,ya,yb,BN,BO,BP,BQ,yd,BR,BS,BT,BG,yc,BH,BI,BJ,BK,BL,BM,gN,fy,e9,u1,u2,g2,hz0,cZ,pJ]
 |some x=>
 obtain⟨i,x⟩:=x;unfold Al at g;rw[g] at u1;obtain⟨_,hi1,_⟩:=q9 g;rw[wN] at hi1;obtain⟨n8,RH⟩:=aQ.1 hi1;have hxl:=(hfl x (by rw[<-RH];exact cB n8)).2;have hz:(x.who.length+1)*8<=140737488355328:=by omega
 have tE:=Ml c.aF i x hi1;clear g hfl;have hcs:X.clean.bw ((c.aF.map (cj .own)).set i (cj .own ⟨x.q,x.who++[d.client],x.old,x.fO⟩))=true:=by have:=PI (c.aF.set i ⟨x.q,x.who++[d.client],x.old,x.fO⟩);rwa [Vy] at this
 simp at hcs;simp at u1;by_cases g2:(x.who.length:Int)<5;all_goals
 simp -implicitDefEqProofs [x9,u1,u2,gN,fy,e9,hi1,n8,RH,g2,hz,cZ,pJ,tE,ag5,iz,hcs,ya,yb,BN,BO,BP,BQ,yd,BR,BS,BT,BG,yc,BH,BI,BJ,BK,BL,BM];all_goals (repeat' split)<;>first|rfl|omega|(simp_all;done)|(simp_all;omega)|skip
end M
set_option maxHeartbeats 8000000
namespace M
open Go
variable [Fd]
def ZA{s:Sh}{q:Rq}(h:eT s=true):fS s q=AM s q:=by unfold fS;rw[aq h]
def Xv(c:Ca)(d:De)(h:eT c.ai=true)(hn:bI c.now)(hc:aN c<=100000000)(hq:bn d.q<=1100000):ev LI TT 35 [.ptr .own (aI .own c),.agg (ff .af d)]=some (.int .i64 (uJ c d.client d.q).2,[.ptr .own (aI .own (uJ c d.client d.q).1),.dead]):=by
 rw[aE (b:=rH) (rs:=[.t 4]) (n:=2) rfl rfl];have kf:=fR c;have h1:=wh d.q;obtain⟨KE,how⟩:=QG (s:=c.ai) (q:=d.q);have hdc:=PZ c.ai d.q c.now;have Rz:ig c.ai d.q c.now=AD d.q ((fS c.ai d.q).getD eM) (fS c.ai d.q).isSome c.now:=rfl;have RD:=ZA (q:=d.q) h;have u1:=Ej d.q (by omega);try simp at u1
 have u2:=XC c d h hc hq;try simp at u2
 have u3:=X3 c.ai d.q (by omega) (by omega);try simp at u3
 have u4:=uP d.q (by omega);try simp at u4
 have u5:=Yg d.q ((fS c.ai d.q).getD eM) (fS c.ai d.q).isSome c.now (by omega) (by omega) KE hn;try simp at u5
 rw[<-RD] at u3;rw[<-Rz] at u5;have v1:=Xz c d ((fS c.ai d.q).getD eM) hc hq (by omega) KE hn;have v2:=OX c d ⟨d.q,[d.client],(fS c.ai d.q).getD eM,true⟩ hc (by omega);have v3:=OX c d ⟨d.q,[d.client],eM,false⟩ hc (by omega)
 have e2:ig c.ai d.q c.now=2\/ig c.ai d.q c.now=3->eE c.ai d.q c.now=(fS c.ai d.q).getD eM:=λhh=>by
  rcases hdc with ⟨a,_⟩|⟨a,_⟩|⟨o,ho,_,e,_⟩;·omega
  ·omega
  ·rw[e,ho];rfl
 have e3:¬ig c.ai d.q c.now=2->¬ig c.ai d.q c.now=3->eE c.ai d.q c.now=eM:=λh2 h3=>by
  rcases hdc with ⟨_,_,e⟩|⟨_,_,_,e⟩|⟨o,ho,_,_,e⟩;·exact e
  ·exact e
  ·omega
 clear hdc Rz KE how RD;generalize (fS c.ai d.q).isSome=fd at*;generalize (fS c.ai d.q).getD eM=O at*;unfold uJ Ak;generalize Df c d.client d.q=R at u2⊢;cases g1:kr d.q<;>rw[g1] at u1;·simp -implicitDefEqProofs [rH,tJ,tK,tL,tM,rI,tN,tO,tP,u1]
 by_cases g2:1495<=(c.sent.length:Int);·simp -implicitDefEqProofs [rH,tJ,tK,tL,tM,rI,tN,tO,tP,u1,g2]
 by_cases g3:d.q.method=4;·rw[g3] at u1 u2;simp -implicitDefEqProofs [rH,tJ,tK,tL,tM,rI,tN,tO,tP,u1,u2,g2,g3]
 by_cases g4:ig c.ai d.q c.now=2;·rw[e2 (.inl g4)];rw[aq rfl,ay g2,ay g3,aq g4];generalize Ba c d.client d.q O=R2 at v1⊢;rw[g4] at u5;simp at v1;simp -implicitDefEqProofs [rH,tJ,tK,tL,tM,rI,tN,tO,tP,u1,u3,u4,u5,v1,g2,g3]
 by_cases g5:ig c.ai d.q c.now=3;·rw[e2 (.inr g5)];rw[aq rfl,ay g2,ay g3,ay g4,show decide (ig c.ai d.q c.now=3)=true by simp[g5]];generalize sC c d.client d.q ⟨d.q,[d.client],O,true⟩=R2 at v2⊢;rw[g5] at u5;simp at v2;simp -implicitDefEqProofs [rH,tJ,tK,tL,tM,rI,tN,tO,tP,u1,u3,u4,u5,v2,g2,g3]
 rw[e3 g4 g5];rw[aq rfl,ay g2,ay g3,ay g4,show decide (ig c.ai d.q c.now=3)=false by simp[g5]];generalize sC c d.client d.q ⟨d.q,[d.client],eM,false⟩=R2 at v3⊢;simp[eM] at v3;simp -implicitDefEqProofs [rH,u1,u2,u3,u4,u5,v3,g2,g3,g4,g5,tJ,tK,tL,tM,rI,tN,tO,tP];all_goals (repeat' split)<;>first|rfl|omega|(simp_all;done)|(simp_all;omega)|skip
end M
set_option maxHeartbeats 8000000
namespace M
open Go
variable [Fd]
def sD:Ca:=⟨⟨⟨[],[]⟩,[],[],0,0⟩,[],0,[],[]⟩
end M
set_option maxHeartbeats 8000000
namespace M
open Go
variable [Fd]
def Y1{s:Sh}{q:Rq}{now:Int}:bI (eE s q now).t/\aU (eE s q now)<=cx s:=by
 unfold eE;split;·exact QG
 ·exact⟨by unfold bI;simp[eM],by simp[eM,aU,aJ,wL]⟩
end M
set_option maxHeartbeats 8000000
namespace M
open Go
variable [Lb]
def UD{fs:List aM}(hb:wL aL fs<=1000000000):(eL fs).length<=1073741824/\∀w∈eL fs,w.length<=1073741824:=by have h0:=Nl fs;refine⟨by omega,λw hw=>?_⟩;unfold eL at hw;obtain⟨x,hx,rfl⟩:=aY.1 hw;have h1:=HU _ x hx;have h2:=ve fs ld;simp only[dw,cX];omega
def XT(q:Rq)(r:aV)(hq:bn q<=1000000000)(hr:aJ r<=1000000000):ev LI TT 106 [.agg (dN .af q),.agg (cF .af r)]=some (.bool (vO q r),[.dead,.dead]):=by
 rw[aE (b:=nj) (rs:=[.t 4]) (n:=2) rfl rfl];have dF:aJ r=wL aL r.fields+r.body.length:=rfl;have Fq:bn q=q.path.length+wL aL q.fields+q.body.length:=rfl;have V:=UD (fs:=r.fields) (by omega);unfold vO;have u1:=Ej q (by omega);try simp at u1
 have u2:=uO r (by omega);try simp at u2
 have u3:=uL r.fields (by omega);try simp at u3
 have u4:=uL q.fields (by omega);try simp at u4
 have u5:=Ek r.fields (by omega);try simp at u5
 have u6:=Pk (eL r.fields) V.1 V.2;try simp at u6
 rw[show (bq gR (eL r.fields) && decide (((eL r.fields).length:Int)<=4))=qk (eL r.fields) from rfl] at u6;generalize qk (eL r.fields)=b6 at u6⊢;generalize eL r.fields=W at u5 u6;generalize gY r.fields=c1 at u3⊢;generalize gY q.fields=c2 at u4⊢;generalize fA r=b2 at u2⊢;generalize kr q=b1 at u1⊢;obtain⟨n1,n2,n3,n4,n5,n6⟩:=c1;obtain⟨m1,m2,m3,m4,m5,m6⟩:=c2;simp only at u3 u4;cases b1;·simp -implicitDefEqProofs [nj,u1]
 cases b2;·simp -implicitDefEqProofs [nj,u1,u2]
 by_cases g1:q.method=1;rotate_left;·simp -implicitDefEqProofs [nj,u1,u2,g1]
 rw[g1] at u1;by_cases g2:r.status=200;rotate_left;·simp -implicitDefEqProofs [nj,u1,u2,g1,g2]
 rw[g2] at u2;cases m1;rotate_left;·simp -implicitDefEqProofs [nj,u1,u2,u3,u4,g1,g2]
 cases n1;rotate_left;·simp -implicitDefEqProofs [nj,u1,u2,u3,u4,g1,g2]
 cases n3;rotate_left;·simp -implicitDefEqProofs [nj,u1,u2,u3,u4,g1,g2]
 cases n5;·simp -implicitDefEqProofs [nj,u1,u2,u3,u4,g1,g2]
 simp -implicitDefEqProofs [nj,u1,u2,u3,u4,u5,u6,g1,g2];all_goals (repeat' split)<;>first|rfl|omega|(simp_all;done)|(simp_all;omega)|skip
def aeV{l:List ah}(h:qk l=true):l.length<=4:=by unfold qk at h;simp only[av,bx] at h;omega
def akh(fs:List aM)(n:ah):(wC fs n).length<=wL aL fs+1:=by
 have h:=ve fs n;unfold wC;cases hg:dS fs n with
 |none=>simp
 |some x=>rw[hg] at h;simp at h⊢;omega
def afj{q:Rq}{r:aV}(t:Int)(hm:vO q r=true)(hq:bn q<=100000000)(hr:aJ r<=100000000):aU (ug q r t)<=1073741824:=by
 unfold vO at hm;simp only[av] at hm;have hr2:=Hx hm.1.1.1.1.1.1.1.2;have hn:=aeV hm.2;have dF:aJ r=wL aL r.fields+r.body.length:=rfl;have Fq:bn q=q.path.length+wL aL q.fields+q.body.length:=rfl;have h1:=UC r.fields;have h2:wL aL r.fields+1<=801:=by omega
 have h3:=Nat.mul_le_mul h2 h2;have h4:wL wS (valuesOf (eL r.fields) q.fields)<=4*(wL aL q.fields+1+1):=sA (λw hw=>by unfold valuesOf at hw;obtain⟨n,_,rfl⟩:=aY.1 hw;exact akh q.fields n) (by rw[UA];exact hn)
 have e:aU (ug q r t)=q.path.length+wL wS (eL r.fields)+wL wS (valuesOf (eL r.fields) q.fields)+aJ r:=rfl;omega
def O3(q:Rq)(r:aV)(t:Int)(hq:bn q<=100000000)(hr:aJ r<=100000000):ev LI TT 69 [.agg (dN .af q),.agg (cF .af r),.int .i64 t]=some (.ak [.agg (cE .own (lX q r t)),.bool (nA q r t)],[.dead,.dead,.dead]):=by
 rw[aE (b:=yl) (rs:=[.c 6 7 true 60,.t 7]) (n:=3) rfl rfl];have dF:aJ r=wL aL r.fields+r.body.length:=rfl;have Fq:bn q=q.path.length+wL aL q.fields+q.body.length:=rfl;have V:=UD (fs:=r.fields) (by omega);have jm:=bg (w:=aL) q.fields;have hl3:=bg (w:=aL) r.fields;have u1:=XT q r (by omega) (by omega);try simp at u1
 have u2:=Ek r.fields (by omega);try simp at u2
 have u3:=pq r (by omega);try simp at u3
 have u4:=Pf (eL r.fields) q.fields V.1 (by omega);try simp at u4
 unfold lX nA;cases g1:vO q r<;>rw[g1] at u1;·simp -implicitDefEqProofs [yl,B9,Cb,Cd,u1,eM]
 have u5:=xl (ug q r t) (afj t g1 hq hr);cases g2:dy (ug q r t)<;>rw[g2] at u5<;>simp[ug] at u5;·simp -implicitDefEqProofs [yl,B9,Cb,Cd,u1,u2,u3,u4,u5,eM]
 simp -implicitDefEqProofs [yl,u1,u2,u3,u4,ug,B9,Cb,Cd];all_goals (repeat' split)<;>first|rfl|omega|(simp_all;done)|(simp_all;omega)|skip
def Mk:∀(b a:List aM),wL aL (ny a b)<=wL aL a+wL aL b
 |[],a=>by unfold ny;simp
 |f::b,a=>by
  have h:=Mk b (iM a f.name f.value);have h2:=Dh a f.name f.value;have h3:wL aL (f::b)=aL f+wL aL b+1:=by simp[wL];omega
  have h4:aL f=f.name.length+f.value.length:=rfl;show wL aL (ny (iM a f.name f.value) b)<=_;omega
def V2(a b:aV)(ha:a.fields.length<=500000000)(hb:b.fields.length<=500000000)(fs:List aM)(hinv:fs.length<=a.fields.length+0):bh (aA (ev LI TT) (aB TT) B7) [(2,.ptr .own (cF .af a)),(3,.ptr .own (cF .af b)),(4,.ptr .own (cF .own ⟨0,[],[]⟩)),(5,.ptr .own [.int .i64 a.status,.row .own 2 ((fs).map aW),.str ⟨a.body.toArray⟩]),(10,.aj 3 [] 0 1),(11,.row .af 2 (b.fields.map aW)),(12,.int .i64 b.fields.length),(13,.int .i64 0)]=some (.exit 0,[(2,.ptr .own (cF .af a)),(3,.ptr .own (cF .af b)),(4,.ptr .own (cF .own ⟨0,[],[]⟩)),(5,.ptr .own [.int .i64 a.status,.row .own 2 (((foldI ((λ_ g (f:aM)=>iM g f.name f.value)) 0 (b.fields) fs)).map aW),.str ⟨a.body.toArray⟩]),(10,.aj 3 [] 0 1),(11,.row .af 2 (b.fields.map aW)),(12,.int .i64 b.fields.length),(13,.int .i64 (b.fields).length),(14,.bool false)]):=by
 refine nu (f:=aA (ev LI TT) (aB TT) B7) (b.fields) (λi (fs:List aM)=>[(2,.ptr .own (cF .af a)),(3,.ptr .own (cF .af b)),(4,.ptr .own (cF .own ⟨0,[],[]⟩)),(5,.ptr .own [.int .i64 a.status,.row .own 2 ((fs).map aW),.str ⟨a.body.toArray⟩]),(10,.aj 3 [] 0 1),(11,.row .af 2 (b.fields.map aW)),(12,.int .i64 b.fields.length),(13,.int .i64 i)]) ((λ_ g (f:aM)=>iM g f.name f.value)) (λfs=>[(2,.ptr .own (cF .af a)),(3,.ptr .own (cF .af b)),(4,.ptr .own (cF .own ⟨0,[],[]⟩)),(5,.ptr .own [.int .i64 a.status,.row .own 2 ((fs).map aW),.str ⟨a.body.toArray⟩]),(10,.aj 3 [] 0 1),(11,.row .af 2 (b.fields.map aW)),(12,.int .i64 b.fields.length),(13,.int .i64 (b.fields).length),(14,.bool false)]) (λi (fs:List aM)=>fs.length<=a.fields.length+i) fs hinv (λi b fs hi hl hinv=>?_) (λi b fs hi hinv=>?_) (λfs hinv=>?_)
 ·have hw:=bY i (by first|omega|(simp at hl;omega));obtain⟨_,rfl⟩:=aQ.1 hi;have u1:=Jc fs (b.fields[i]).name (b.fields[i]).value (by omega);try simp at u1
  simp -implicitDefEqProofs [B7,K7,hl,hw,u1];all_goals (repeat' split)<;>first|rfl|omega|(simp_all;done)|(simp_all;omega)|skip
 ·have:=ags fs b.name b.value;omega
 ·simp -implicitDefEqProofs [B7,K7]
def XU(a:aV)(b:aV)(ha:aJ a<=100000000)(hb:aJ b<=100000000):ev LI TT 105 [.agg (cF .af a),.agg (cF .af b)]=some (.agg (cF .own (merge a b)),[.dead,.dead]):=by
 rw[aE (b:=FU) (rs:=[.c 4 3 true 47]) (n:=2) rfl rfl];have h1:=zq a;have h2:=zq b;have hm:=Mk b.fields a.fields;have hw1:aJ a=wL aL a.fields+a.body.length:=rfl;have dF:aJ b=wL aL b.fields+b.body.length:=rfl;have oa:aJ ⟨a.status,ny a.fields b.fields,a.body⟩=wL aL (ny a.fields b.fields)+a.body.length:=rfl;have u1:=pq a (by omega);try simp at u1
 have u2:=V2 a b (by omega) (by omega) a.fields (by omega);try simp at u2
 have u3:=uO ⟨a.status,ny a.fields b.fields,a.body⟩ (by omega);try simp at u3
 rw[EV,show b.fields.foldl (λg f=>iM g f.name f.value) a.fields=ny a.fields b.fields from rfl] at u2;unfold merge;generalize ny a.fields b.fields=M at u2 u3⊢;cases g:fA ⟨a.status,M,a.body⟩<;>rw[g] at u3;all_goals
 simp -implicitDefEqProofs [FU,u1,u2,u3,g];all_goals (repeat' split)<;>first|rfl|omega|(simp_all;done)|(simp_all;omega)|skip
end M
set_option maxHeartbeats 8000000
namespace M
open Go
variable [Fd]
def OW(c:Ca)(a:Int)(hc:c.aF.length<=1073741824):ev LI TT 67 [.ptr .af (aI .af c),.int .i64 a]=some (.bool (mS c a).isSome,[.dead,.dead]):=by
 rw[aE (b:=Fz) (rs:=[.t 4]) (n:=2) rfl rfl];have hw:=dz (n:=(c.aF.length:Int) - 1) (by omega) (by omega)
 have e:(mS c a).isSome=decide (0<=a/\a<=(c.aF.length:Int) - 1):=by
  unfold mS;split
  ·rename_i h;rw[Bool.eq_iff_iff,bx,wR];constructor;·rintro ⟨f,hf⟩;obtain⟨hl,_⟩:=aQ.1 hf;omega
   ·intro h2;exact⟨_,cr (by omega)⟩
  ·rename_i h;simp;omega
 rw[e];simp -implicitDefEqProofs [Fz,hw];all_goals (repeat' split)<;>first|rfl|omega|(simp_all;done)|(simp_all;omega)|skip
def MR(c:Ca)(f:Fl)(r:aV)(kind:Int):∀(l:List Int) (c:Ca),l.foldl (λc k=>ku c k f.q r kind) c=⟨c.ai,c.aF,c.now,c.seen,c.sent++l.map λk=>jw c k f.q r kind⟩
 |[],c=>by simp
 |k::l,c=>by rw[qJ,MR c f r kind l];simp[ku,jw]
def VR(c:Ca)(a:Int)(f:Fl)(r:aV)(kd:Int)(hf:f.who.length<=100000000)(hs:c.sent.length<=100000000)(hq:bn f.q<=1073741824)(hr:aJ r<=1073741824)(x:Ca)(hinv:x.sent.length=c.sent.length+0):bh (aA (ev LI TT) (aB TT) rJ) [(0,.aj 100000 [] 0 0),(3,.int .i64 kd),(6,.ptr .own (cF .af r)),(8,.ptr .own (cj .own f)),(29,.aj 8 [] 0 4),(30,.ref 8 [(0,4)]),(31,.int .i64 f.who.length),(32,.int .i64 0),(100000,.ptr .own (aI .own x))]=some (.exit 0,[(0,.aj 100000 [] 0 0),(3,.int .i64 kd),(6,.ptr .own (cF .af r)),(8,.ptr .own (cj .own f)),(29,.aj 8 [] 0 4),(30,.ref 8 [(0,4)]),(31,.int .i64 f.who.length),(32,.int .i64 (f.who).length),(33,.bool false),(100000,.ptr .own (aI .own (foldI ((λ_ x k=>ku x k f.q r kd)) 0 (f.who) x)))]):=by
 refine nu (f:=aA (ev LI TT) (aB TT) rJ) (f.who) (λi (x:Ca)=>[(0,.aj 100000 [] 0 0),(3,.int .i64 kd),(6,.ptr .own (cF .af r)),(8,.ptr .own (cj .own f)),(29,.aj 8 [] 0 4),(30,.ref 8 [(0,4)]),(31,.int .i64 f.who.length),(32,.int .i64 i),(100000,.ptr .own (aI .own x))]) ((λ_ x k=>ku x k f.q r kd)) (λx=>[(0,.aj 100000 [] 0 0),(3,.int .i64 kd),(6,.ptr .own (cF .af r)),(8,.ptr .own (cj .own f)),(29,.aj 8 [] 0 4),(30,.ref 8 [(0,4)]),(31,.int .i64 f.who.length),(32,.int .i64 (f.who).length),(33,.bool false),(100000,.ptr .own (aI .own x))]) (λi (x:Ca)=>x.sent.length=c.sent.length+i) x hinv (λi b x hi hl hinv=>?_) (λi b x hi hinv=>?_) (λx hinv=>?_)
 ·have hw:=bY i (by omega);obtain⟨_,rfl⟩:=aQ.1 hi;have u1:=Ja x (f.who[i]) f.q r kd (by omega) hq hr;try simp at u1
  simp -implicitDefEqProofs [rJ,BA,hl,hw,u1];all_goals (repeat' split)<;>first|rfl|omega|(simp_all;done)|(simp_all;omega)|skip
 ·simp only[ku,gT,di,jE];omega
 ·simp -implicitDefEqProofs [rJ,BA]
def PK:∀(l:List (List X)) (i:Nat) (z:List X),X.clean.bw l=true->X.clean.cD z=true->X.clean.bw (l.set i z)=true
 |[],i,z,_,_=>by simp[X.clean.bw]
 |a::l,0,z,h,hz=>by simp only[X.clean.bw,av,aS] at h⊢;exact⟨hz,h.2⟩
 |a::l,i+1,z,h,hz=>by simp only[X.clean.bw,av,aT] at h⊢;exact⟨h.1,PK l i z h.2 hz⟩
def OR(z:List X)(hz:X.clean.cD z=true)(l:List Fl)(n:Nat)(h:n<l.length):ev LI TT 113 [.row .own 13 ((l.map (cj .own)).set n z),.int .i64 (n:Int),.int .i64 ((n:Int)+1)]=some (.row .own 13 ((l.eraseIdx n).map (cj .own)),[.dead,.dead,.dead]):=by rw[Yx _ n (by simpa using h) (PK _ n z (PI l) hz),List.eraseIdx_set_eq,Qn]
def XB(c:Ca)(a:Int)(f:Fl)(r:aV)(kd:Int)(ha:mS c a=some f)(hc:aN c<=100000000)(hr:aJ r<=1073741824):ev LI TT 71 [.ptr .own (aI .own c),.int .i64 a,.agg (cF .af r),.int .i64 kd]=some (.ak [],[.ptr .own (aI .own (gM c a.toNat f r kd)),.dead,.dead,.dead]):=by
 rw[aE (b:=x7) (rs:=[]) (n:=4) rfl rfl];obtain⟨f0,f1,f2,f3⟩:=tg ha;obtain⟨n,hn⟩:∃n:Nat,a=n:=⟨a.toNat,by omega⟩;subst hn;rw[qI] at f1 f2⊢;have kf:=fR c;have hl:=bg (w:=cL) c.sent;have jm:=bg (w:=cm) c.aF;have hm:=gB (w:=cm) f3;have xN:cm f=bn f.q+wL wO f.who+aU f.old:=rfl;have h2:=bg (w:=wO) f.who;have hw:=bY n (by omega);have tE:=Ml c.aF n f f2;have gx:c.aF[n]=f:=(aQ.1 f2).2;have u1:=OR [.int .i64 f.q.method,.str ⟨f.q.path.toArray⟩,.dead,.str ⟨f.q.body.toArray⟩,.dead,.str ⟨f.old.path.toArray⟩,.dead,.dead,.int .i64 f.old.resp.status,.dead,.str ⟨f.old.resp.body.toArray⟩,.int .i64 f.old.t,.bool f.fO] rfl c.aF n f1;try simp at u1
 have u2:=VR ⟨c.ai,c.aF.eraseIdx n,c.now,c.seen,c.sent⟩ n f r kd (by omega) (by show c.sent.length<=_;omega) (by omega) hr ⟨c.ai,c.aF.eraseIdx n,c.now,c.seen,c.sent⟩ (by simp);try simp at u2
 rw[EV,MR c f r kd] at u2;rw[show (f.who.map λk=>jw ⟨c.ai,c.aF.eraseIdx n,c.now,c.seen,c.sent⟩ k f.q r kd)=f.who.map λk=>jw c k f.q r kd from rfl] at u2;unfold gM;generalize (f.who.map λk=>jw c k f.q r kd)=S at u2⊢;try simp at u2
 simp -implicitDefEqProofs [x7,u1,u2,f1,f2,hw,tE,iz,gx];all_goals (repeat' split)<;>first|rfl|omega|(simp_all;done)|(simp_all;omega)|skip
end M
set_option maxHeartbeats 8000000
namespace M
open Go
variable [Fd]
def Xy(c:Ca)(a:Int)(hc:aN c<=100000000):ev LI TT 37 [.ptr .own (aI .own c),.int .i64 a]=some (.int .i64 (va c a).2,[.ptr .own (aI .own (va c a).1),.dead]):=by
 rw[aE (b:=xZ) (rs:=[.t 4]) (n:=2) rfl rfl];have kf:=fR c;have jm:=bg (w:=cm) c.aF;have u1:=OW c a (by omega);try simp at u1
 unfold va;cases g:mS c a with
 |none=>rw[g] at u1;simp at u1;simp -implicitDefEqProofs [xZ,u1]
 |some f=>
 rw[g] at u1;simp at u1;simp only;by_cases g2:1495<=(c.sent.length:Int);·simp -implicitDefEqProofs [xZ,u1,g2]
 have v1:=XB c a f ⟨504,[],[]⟩ 4 g hc (by simp[aJ,wL]);rw[ay g2];generalize gM c a.toNat f ⟨504,[],[]⟩ 4=R at v1⊢;simp at v1;simp -implicitDefEqProofs [xZ,u1,g2,v1];all_goals (repeat' split)<;>first|rfl|omega|(simp_all;done)|(simp_all;omega)|skip
def XF(c:Ca)(a:Int)(hn:0<=c.now/\c.now<=1000000):ev LI TT 38 [.ptr .own (aI .own c),.int .i64 a]=some (.int .i64 (wz c a).2,[.ptr .own (aI .own (wz c a).1),.dead]):=by
 rw[aE (b:=BF) (rs:=[.t 4]) (n:=2) rfl rfl];have hw:=dz (n:=1000000 - c.now) (by omega) (by omega);unfold wz;by_cases g:0<=a/\a<=1000000 - c.now;rotate_left;·simp -implicitDefEqProofs [BF,hw,g]
 have dF:=dz (n:=c.now+a) (by omega) (by omega);simp -implicitDefEqProofs [BF,hw,g,dF];all_goals (repeat' split)<;>first|rfl|omega|(simp_all;done)|(simp_all;omega)|skip
def Xw(c:Ca)(b:Bn)(h:eT c.ai=true)(hc:aN c<=100000000)(hb:bz b<=10000000):ev LI TT 39 [.ptr .own (aI .own c),.agg (cY b)]=some (.int .i64 (xe c b).2,[.ptr .own (aI .own (xe c b).1),.dead]):=by
 rw[aE (b:=Fx) (rs:=[.t 4]) (n:=2) rfl rfl];have kf:=fR c;unfold xe;obtain⟨e,he,h1,h2,h3,h4⟩:∃e,e=xd b c.now/\e.kind=b.kind/\e.a=b.a/\e.b=b.b/\e.t=c.now:=⟨_,rfl,rfl,rfl,rfl,rfl⟩;have tA:bz e=bz b:=by rw[he];rfl
 rw[<-he];have u1:=O8 c.ai e h (by omega) (by omega);try simp at u1
 simp[h1,h2,h3,h4] at u1;generalize kK c.ai e=S at*;cases g:pn c.ai e<;>rw[g] at u1;all_goals
 simp -implicitDefEqProofs [Fx,u1,dK];all_goals (repeat' split)<;>first|rfl|omega|(simp_all;done)|(simp_all;omega)|skip
@[simp] def P7(c:Ca)(n:Nat)(f:Fl):List X:=[.row .own 1 (c.ai.aP.cells.map eS),.row .own 2 (c.ai.aP.pending.map eW),.row .own 9 (c.ai.aC.map (au .own)),.row .own 4 (c.ai.aG.map cY),.int .i64 c.ai.next,.int .i64 c.ai.seq,.row .own 13 ((c.aF.map (cj .own)).set n (cj .sl f)),.int .i64 c.now,.row .own 8 (c.seen.map (pF .own)),.row .own 18 (c.sent.map (dY .own))]
def Wp(c:Ca)(a:Int)(f:Fl)(r:aV)(kd:Int)(hf:f.who.length<=100000000)(hs:c.sent.length<=100000000)(hq:bn f.q<=1073741824)(hr:aJ r<=1073741824)(x:Ca)(hinv:x.sent.length=c.sent.length+0):bh (aA (ev LI TT) (aB TT) rJ) [(0,.aj 100000 [] 0 0),(3,.int .i64 kd),(6,.ptr .own (cF .af r)),(8,.ptr .own (cj .sl f)),(29,.aj 8 [] 0 4),(30,.row .sl 1 (f.who.map eI)),(31,.int .i64 f.who.length),(32,.int .i64 0),(100000,.ptr .own (aI .own x))]=some (.exit 0,[(0,.aj 100000 [] 0 0),(3,.int .i64 kd),(6,.ptr .own (cF .af r)),(8,.ptr .own (cj .sl f)),(29,.aj 8 [] 0 4),(30,.row .sl 1 (f.who.map eI)),(31,.int .i64 f.who.length),(32,.int .i64 (f.who).length),(33,.bool false),(100000,.ptr .own (aI .own (foldI ((λ_ x k=>ku x k f.q r kd)) 0 (f.who) x)))]):=by
 refine nu (f:=aA (ev LI TT) (aB TT) rJ) (f.who) (λi (x:Ca)=>[(0,.aj 100000 [] 0 0),(3,.int .i64 kd),(6,.ptr .own (cF .af r)),(8,.ptr .own (cj .sl f)),(29,.aj 8 [] 0 4),(30,.row .sl 1 (f.who.map eI)),(31,.int .i64 f.who.length),(32,.int .i64 i),(100000,.ptr .own (aI .own x))]) ((λ_ x k=>ku x k f.q r kd)) (λx=>[(0,.aj 100000 [] 0 0),(3,.int .i64 kd),(6,.ptr .own (cF .af r)),(8,.ptr .own (cj .sl f)),(29,.aj 8 [] 0 4),(30,.row .sl 1 (f.who.map eI)),(31,.int .i64 f.who.length),(32,.int .i64 (f.who).length),(33,.bool false),(100000,.ptr .own (aI .own x))]) (λi (x:Ca)=>x.sent.length=c.sent.length+i) x hinv (λi b x hi hl hinv=>?_) (λi b x hi hinv=>?_) (λx hinv=>?_)
 ·have hw:=bY i (by omega);obtain⟨_,rfl⟩:=aQ.1 hi;have u1:=Ja x (f.who[i]) f.q r kd (by omega) hq hr;try simp at u1
  simp -implicitDefEqProofs [rJ,BA,hl,hw,u1];all_goals (repeat' split)<;>first|rfl|omega|(simp_all;done)|(simp_all;omega)|skip
 ·simp only[ku,gT,di,jE];omega
 ·simp -implicitDefEqProofs [rJ,BA]
def En(c:Ca)(a:Int)(f:Fl)(r:aV)(kd:Int)(ha:mS c a=some f)(hc:aN c<=100000000)(hr:aJ r<=1073741824):ev LI TT 71 [.ptr .own (P7 c a.toNat f),.int .i64 a,.agg (cF .af r),.int .i64 kd]=some (.ak [],[.ptr .own (aI .own (gM c a.toNat f r kd)),.dead,.dead,.dead]):=by
 rw[aE (b:=x7) (rs:=[]) (n:=4) rfl rfl];obtain⟨f0,f1,f2,f3⟩:=tg ha;obtain⟨n,hn⟩:∃n:Nat,a=n:=⟨a.toNat,by omega⟩;subst hn;rw[qI] at f1 f2⊢;have kf:=fR c;have hl:=bg (w:=cL) c.sent;have jm:=bg (w:=cm) c.aF;have hm:=gB (w:=cm) f3;have xN:cm f=bn f.q+wL wO f.who+aU f.old:=rfl;have h2:=bg (w:=wO) f.who;have hw:=bY n (by omega);have gx:c.aF[n]=f:=(aQ.1 f2).2;have u1:=OR (cj .sl f) (by simp[X.clean.cD,X.clean]) c.aF n f1;try simp at u1
 have u2:=Wp ⟨c.ai,c.aF.eraseIdx n,c.now,c.seen,c.sent⟩ n f r kd (by omega) (by show c.sent.length<=_;omega) (by omega) hr ⟨c.ai,c.aF.eraseIdx n,c.now,c.seen,c.sent⟩ (by simp);try simp at u2
 rw[EV,MR c f r kd] at u2;rw[show (f.who.map λk=>jw ⟨c.ai,c.aF.eraseIdx n,c.now,c.seen,c.sent⟩ k f.q r kd)=f.who.map λk=>jw c k f.q r kd from rfl] at u2;unfold gM;generalize (f.who.map λk=>jw c k f.q r kd)=S at u2⊢;try simp at u2
 simp -implicitDefEqProofs [x7,u1,u2,f1,f2,hw,iz,gx];all_goals (repeat' split)<;>first|rfl|omega|(simp_all;done)|(simp_all;omega)|skip
end M
set_option maxHeartbeats 8000000
namespace M
open Go
variable [Fd]
def SO(a b:aV):aJ (merge a b)<=aJ a+aJ b:=by have hm:=Mk b.fields a.fields;have hw1:aJ a=wL aL a.fields+a.body.length:=rfl;have dF:aJ b=wL aL b.fields+b.body.length:=rfl;have oa:aJ ⟨a.status,ny a.fields b.fields,a.body⟩=wL aL (ny a.fields b.fields)+a.body.length:=rfl;unfold merge;split<;>omega
def Hp{q:Rq}{r:aV}{t:Int}(h:nA q r t=true):aU (lX q r t)<=1300:=by unfold lX;rw[aq h];unfold nA at h;simp only[av] at h;exact C0 h.2
def afo{q:Rq}{r:aV}{t:Int}(h:nA q r t=true):(lX q r t).t=t:=by unfold lX;rw[aq h];rfl
def IL(q:Rq)(o:Ob)(now:Int):aJ (answer q o now)<=aJ o.resp+800:=by
 have ho:aJ (if wk q o.resp.fields=true then qB o.resp else o.resp)<=aJ o.resp:=by
  split;·have h:=MU o.resp;have e:aJ o.resp=wL aL o.resp.fields+o.resp.body.length:=rfl;show wL aL (o.resp.fields.filter iO)+0<=_;omega
  ·omega
 unfold answer;generalize (if wk q o.resp.fields=true then qB o.resp else o.resp)=out at ho⊢;dsimp only;split;·rename_i h;have:=Hx h;omega
 ·omega
def GQ(c:Ca)(o:Ob):aN (dK c (iu c.ai o))<=aN c+aU o+2100:=by have h:=aed c.ai o;have e1:=fR c;have e2:aN (dK c (iu c.ai o))=cx (iu c.ai o)+wL cm c.aF+wL fB c.seen+wL cL c.sent:=rfl;omega
def XE(c:Ca)(a:Int)(f:Fl)(r:aV)(ha:mS c a=some f)(h:eT c.ai=true)(hn:bI c.now)(hc:aN c<=50000000)(hr:aJ r<=10000000):ev LI TT 68 [.ptr .own (P7 c a.toNat f),.int .i64 a,.agg (cF .af r)]=some (.ak [],[.ptr .own (aI .own (zu c a.toNat f r)),.dead,.dead]):=by
 rw[aE (b:=x8) (rs:=[]) (n:=3) rfl rfl];obtain⟨f0,f1,f2,f3⟩:=tg ha;obtain⟨n,hna⟩:∃n:Nat,a=n:=⟨a.toNat,by omega⟩;subst hna;rw[qI] at f1 f2⊢;have kf:=fR c;have jm:=bg (w:=cm) c.aF;have hm:=gB (w:=cm) f3;have xN:cm f=bn f.q+wL wO f.who+aU f.old:=rfl;have how:aU f.old=f.old.path.length+wL wS f.old.names+wL wS f.old.values+aJ f.old.resp:=rfl;have hqw:bn f.q=f.q.path.length+wL aL f.q.fields+f.q.body.length:=rfl;have Bf:bn (qA f)=f.old.path.length+wL aL f.q.fields+0:=rfl;have hnl:=bg (w:=wS) f.old.names;have gx:c.aF[n]=f:=(aQ.1 f2).2;have hmw:=SO f.old.resp r;have u1:=XU f.old.resp r (by omega) (by omega);try simp at u1
 have u2:=O3 (qA f) (merge f.old.resp r) c.now (by omega) (by omega);try simp at u2
 simp only[qA] at u2;try simp at u2
 have v0:=En c n f (merge f.old.resp r) 3 ha (by omega) (by omega);rw[qI] at v0;unfold zu MO lu;rw[show (⟨1,f.old.path,f.q.fields,[]⟩:Rq)=qA f from rfl] at u2;have AY:=Hp (q:=qA f) (r:=merge f.old.resp r) (t:=c.now);have Ka:=afo (q:=qA f) (r:=merge f.old.resp r) (t:=c.now);generalize lX (qA f) (merge f.old.resp r) c.now=O at*;generalize merge f.old.resp r=M at*;generalize gM c n f M 3=R0 at v0⊢;simp at v0;cases g:nA (qA f) M c.now<;>rw[g] at u2;·simp -implicitDefEqProofs [x8,BC,BD,BE,f1,f2,gx,iz,ghost,kR,gX,u1,u2,v0]
 have AY:=AY g;have Ka:=Ka g;have hOo:aU O=O.path.length+wL wS O.names+wL wS O.values+aJ O.resp:=rfl;have hON:=bg (w:=wS) O.names;have v1:=As O.names f.old.names (by omega);try simp at v1
 by_cases g2:O.names=f.old.names;rotate_left;·simp -implicitDefEqProofs [x8,BC,BD,BE,f1,f2,gx,iz,ghost,kR,gX,u1,u2,v0,v1,g2]
 have v2:=O9 c.ai O h (by omega) (by omega);have v3:=I8 f.q O c.now (by omega) (by omega) (by rw[Ka];exact hn) hn;have v4:=En (dK c (iu c.ai O)) n f (answer f.q O c.now) 3 ha (by have:=GQ c O;omega) (by have:=IL f.q O c.now;omega);rw[qI] at v4;rw[show (true && decide (O.names=f.old.names))=true by simp[g2],aq rfl];generalize answer f.q O c.now=A at*;generalize iu c.ai O=S at*;generalize gM (dK c S) n f A 3=R1 at v4⊢;simp[dK] at v2 v3 v4;rw[g2] at v1 u2 v2 v3;simp -implicitDefEqProofs [x8,u1,u2,f1,f2,gx,iz,ghost,kR,gX,v1,v2,v3,v4,g2,BC,BD,BE];all_goals (repeat' split)<;>first|rfl|omega|(simp_all;done)|(simp_all;omega)|skip
end M
set_option maxHeartbeats 8000000
namespace M
open Go
variable [Fd]
def XD(c:Ca)(d:De)(h:eT c.ai=true)(hn:bI c.now)(hc:aN c<=16777216)(hr:aJ d.resp<=10000000):ev LI TT 36 [.ptr .own (aI .own c),.agg (ff .af d)]=some (.int .i64 (vY c d.a d.resp).2,[.ptr .own (aI .own (vY c d.a d.resp).1),.dead]):=by
 rw[aE (b:=om) (rs:=[.t 4]) (n:=2) rfl rfl];have kf:=fR c;have jm:=bg (w:=cm) c.aF;have hl3:=bg (w:=fB) c.seen;unfold vY;have u1:=uO d.resp (by omega);try simp at u1
 have u2:=OW c d.a (by omega);try simp at u2
 have u3:=pq d.resp (by have:=zq d.resp;omega);try simp at u3
 cases g1:fA d.resp<;>rw[g1] at u1;·simp -implicitDefEqProofs [om,pY,pZ,p6,p7,p8,p9,qa,qc,u1]
 rw[aq rfl];cases g:mS c d.a with
 |none=>rw[g] at u2;simp at u2;simp -implicitDefEqProofs [om,pY,pZ,p6,p7,p8,p9,qa,qc,u1,u2]
 |some f=>
 rw[g] at u2;simp at u2;simp only;by_cases g2:1495<=(c.seen.length:Int);·rw[aq (.inl g2)];simp -implicitDefEqProofs [om,pY,pZ,p6,p7,p8,p9,qa,qc,u1,u2,g2]
 by_cases g3:1495<=(c.sent.length:Int);·rw[aq (.inr g3)];simp -implicitDefEqProofs [om,pY,pZ,p6,p7,p8,p9,qa,qc,u1,u2,g2,g3]
 rw[ay (by omega)];obtain⟨f0,f1,f2,f3⟩:=tg g;obtain⟨n,hna⟩:∃n:Nat,d.a=n:=⟨d.a.toNat,by omega⟩;rw[hna] at u2 g⊢;rw[hna,qI] at f1 f2;rw[qI];have hm:=gB (w:=cm) f3;have xN:cm f=bn f.q+wL wO f.who+aU f.old:=rfl;have gx:c.aF[n]=f:=(aQ.1 f2).2;have tE:=Ml c.aF n f f2;have hz:(c.seen.length+1)*120<=140737488355328:=by omega
 have u4:=uP f.q (by have:=wh f.q;omega);have u5:=O3 f.q d.resp c.now (by omega) (by omega);simp at u4
 have hsw:aN (cH c f.q d.resp)<=aN c+bn f.q+aJ d.resp+1:=by
  have e2:aN (cH c f.q d.resp)=cx c.ai+wL cm c.aF+wL fB (c.seen++[⟨f.q,d.resp,c.now⟩])+wL cL c.sent:=rfl;rw[oT] at e2;have e3:wL fB [⟨f.q,d.resp,c.now⟩]=bn f.q+aJ d.resp+1:=by simp[wL,fB];omega
  omega
 have v1:=XE (cH c f.q d.resp) n f d.resp g h hn (by omega) hr;have v2:=En (cH c f.q d.resp) n f d.resp 2 g (by omega) (by omega);rw[qI] at v1 v2;have AY:=Hp (q:=f.q) (r:=d.resp) (t:=c.now);rw[show HO (cH c f.q d.resp) n f d.resp=(if nA f.q d.resp c.now=true then gM (dK (cH c f.q d.resp) (iu c.ai (lX f.q d.resp c.now))) n f d.resp 2 else gM (cH c f.q d.resp) n f d.resp 2) from rfl];generalize lX f.q d.resp c.now=O at*;generalize zu (cH c f.q d.resp) n f d.resp=R1 at v1⊢;by_cases g4:d.resp.status=304/\f.fO=true;·rw[aq g4];simp[cH] at v1;rw[g4.1] at u1 u3 v1;rw[g4.2] at v1;simp -implicitDefEqProofs [om,pY,pZ,p6,p7,p8,p9,qa,qc,hna,u1,u2,u3,u4,g2,g3,f1,f2,gx,tE,iz,ghost,kR,gX,pK,lY,X.pfx,hz,cZ,g4.1,g4.2,v1]
 rw[ay g4];generalize gM (cH c f.q d.resp) n f d.resp 2=R2 at v2⊢;simp[cH] at v2;cases g5:nA f.q d.resp c.now<;>rw[g5] at u5<;>simp at u5
 ·rw[ay (by simp)];by_cases g6:d.resp.status=304
  ·have g7:f.fO=false:=by cases y:f.fO with
    |false=>rfl
    |true=>exact absurd ⟨g6,y⟩ g4
   rw[g6] at u1 u3 u5 v2;rw[g7] at v2;simp -implicitDefEqProofs [om,pY,pZ,p6,p7,p8,p9,qa,qc,hna,u1,u2,u3,u4,u5,g2,g3,f1,f2,gx,tE,iz,ghost,kR,gX,pK,lY,X.pfx,hz,cZ,g6,g7,v2]
  simp -implicitDefEqProofs [om,pY,pZ,p6,p7,p8,p9,qa,qc,hna,u1,u2,u3,u4,u5,g2,g3,f1,f2,gx,tE,iz,ghost,kR,gX,pK,lY,X.pfx,hz,cZ,g6,v2]
 rw[aq rfl];have AY:=AY g5;have g6:¬d.resp.status=304:=by unfold nA vO at g5;simp only[av,bx] at g5;have:=g5.1.1.1.1.1.1.2;omega
 have v3:=O9 c.ai O h (by omega) (by omega);have hkw:=GQ (cH c f.q d.resp) O;have v4:=En (dK (cH c f.q d.resp) (iu c.ai O)) n f d.resp 2 g (by have e:aN (dK (cH c f.q d.resp) (iu c.ai O))=aN (dK (cH c f.q d.resp) (iu (cH c f.q d.resp).ai O)):=rfl;omega) (by omega);rw[qI] at v4;generalize iu c.ai O=S at v3 v4⊢;generalize gM (dK (cH c f.q d.resp) S) n f d.resp 2=R3 at v4⊢;simp[dK,cH] at v3 v4;simp -implicitDefEqProofs [om,u1,u2,u3,hna,u1,u2,u3,u4,u5,g2,g3,f1,f2,gx,tE,iz,ghost,kR,gX,pK,lY,X.pfx,hz,cZ,g6,v3,v4,pY,pZ,p6,p7,p8,p9,qa,qc];all_goals (repeat' split)<;>first|rfl|omega|(simp_all;done)|(simp_all;omega)|skip
end M
set_option maxHeartbeats 4000000
namespace M
open Go
variable [Fd]
def UI{α:Type}(w:α->Nat):∀(l:List α) (i:Nat),wL w (l.eraseIdx i)<=wL w l
 |[],i=>by simp
 |a::l,0=>by simp[wL];omega
 |a::l,i+1=>by have:=UI w l i;simp[wL] at this⊢;omega
def UK{α β:Type}(w:β->Nat)(g:α->β)(m:Nat)(h:∀a,w (g a)=m):∀(l:List α),wL w (l.map g)=l.length*(m+1)
 |[]=>by simp[wL]
 |a::l=>by
  have:=UK w g m h l;have e:wL w ((a::l).map g)=w (g a)+wL w (l.map g)+1:=by simp[wL];omega
  rw[e,h,this,di,Nat.succ_mul];omega
def T0(c:Ca)(k:Int)(q:Rq)(r:aV)(kd:Int):cL (jw c k q r kd)=bn q+aJ r:=by show bn q+aJ r+aU eM=_;have:aU eM=0:=rfl;omega
def TZ(c:Ca)(k:Int)(q:Rq)(r:aV)(kd:Int):aN (ku c k q r kd)=aN c+bn q+aJ r+1:=by
 have e1:=fR c;have e2:aN (ku c k q r kd)=cx c.ai+wL cm c.aF+wL fB c.seen+wL cL (c.sent++[jw c k q r kd]):=rfl;have h:=T0 c k q r kd;rw[oT] at e2;have e3:wL cL [jw c k q r kd]=cL (jw c k q r kd)+1:=by simp[wL];omega
 omega
def Da{c:Ca}{a:Nat}{f:Fl}{r:aV}{kd:Int}(hw:f.who.length<=5):aN (gM c a f r kd)<=aN c+5*(bn f.q+aJ r+1):=by have h1:=UI cm c.aF a;have h2:=UK cL (λk=>jw c k f.q r kd) (bn f.q+aJ r) (λk=>T0 c k f.q r kd) f.who;have h3:=kC (bn f.q+aJ r+1) hw;have e1:=fR c;have e2:aN (gM c a f r kd)=cx c.ai+wL cm (c.aF.eraseIdx a)+wL fB c.seen+wL cL (c.sent++f.who.map λk=>jw c k f.q r kd):=rfl;rw[oT,h2] at e2;omega
def ahe(c:Ca)(q:Rq)(r:aV):aN (cH c q r)=aN c+bn q+aJ r+1:=by
 have e1:=fR c;have e2:aN (cH c q r)=cx c.ai+wL cm c.aF+wL fB (c.seen++[⟨q,r,c.now⟩])+wL cL c.sent:=rfl;rw[oT] at e2;have e3:wL fB [⟨q,r,c.now⟩]=bn q+aJ r+1:=by simp[wL,fB];omega
 omega
def T7(c:Ca)(s:Sh):aN (dK c s)+cx c.ai=aN c+cx s:=by have e1:=fR c;have e2:aN (dK c s)=cx s+wL cm c.aF+wL fB c.seen+wL cL c.sent:=rfl;omega
def QM(c:Ca)(l:List Fl):aN (pJ c l)+wL cm c.aF=aN c+wL cm l:=by have e1:=fR c;have e2:aN (pJ c l)=cx c.ai+wL cm l+wL fB c.seen+wL cL c.sent:=rfl;omega
def YZ(c:Ca)(q:Rq):aU (eE c.ai q c.now)<=aN c:=by have:=(Y1 (s:=c.ai) (q:=q) (now:=c.now)).2;have e1:=fR c;omega
def UL{α:Type}(w:α->Nat):∀(l:List α) (i:Nat) (x v:α),l[i]?=some x->wL w (l.set i v)+w x=wL w l+w v
 |[],i,x,v,h=>by simp at h
 |a::l,0,x,v,h=>by simp at h;subst h;simp[wL];omega
 |a::l,i+1,x,v,h=>by have:=UL w l i x v (by simpa using h);simp[wL] at this⊢;omega
def akr{c:Ca}{k:Int}{q:Rq}{f:Fl}:aN (sC c k q f)<=aN c+cm f+bn q+2:=by
 have hr:∀st,aN (r9 c k q st)<=aN c+bn q+1:=λst=>by
  have h:=TZ c k q ⟨st,[],[]⟩ 4;have h0:aJ ⟨st,[],[]⟩=0:=by simp[aJ,wL]
  show aN (ku c k q ⟨st,[],[]⟩ 4)<=_;omega
 unfold sC;split
 ·rename_i i x hi;obtain⟨_,hi1,_⟩:=q9 hi;rw[wN] at hi1;split
  ·have h1:=QM c (c.aF.set i ⟨x.q,x.who++[k],x.old,x.fO⟩);have h2:wL cm (c.aF.set i ⟨x.q,x.who++[k],x.old,x.fO⟩)<=wL cm c.aF+1:=by have h3:=UL cm c.aF i x ⟨x.q,x.who++[k],x.old,x.fO⟩ hi1;have h4:cm x=bn x.q+wL wO x.who+aU x.old:=rfl;have h5:cm ⟨x.q,x.who++[k],x.old,x.fO⟩=bn x.q+wL wO (x.who++[k])+aU x.old:=rfl;rw[oT] at h5;have h6:wL wO [k]=1:=rfl;omega
   omega
  ·have:=hr 503;omega
 ·split;·have:=hr 503;omega
  ·have h1:=QM c (c.aF++[f]);rw[oT] at h1;have e3:wL cm [f]=cm f+1:=by simp[wL];omega
   omega
def Y4(c:Ca)(d:De)(h:dQ c=true)(hc:aN c<=16000000)(hq:bn d.q<=1100000)(hr:aJ d.resp<=10000000)(hb:bz d.iH<=10000000):aN (jI c d).1<=1073741824:=by
 have P:=Ep.1 h;have kf:=fR c;have iK:cx c.ai=dm c.ai.aP+wL cQ c.ai.aC+wL bz c.ai.aG:=rfl;unfold jI;split
 ·unfold uJ;split
  ·split;·simp only;omega
   ·split
    ·unfold Df;have h1:=TZ (dK c (kK c.ai (oK d.q.path c.now))) d.client d.q ⟨if pn c.ai (oK d.q.path c.now)=true then 200 else 503,[],[]⟩ 4;have h0:∀st,aJ ⟨st,[],[]⟩=0:=λst=>by simp[aJ,wL]
     rw[h0] at h1;have h2:=T7 c (kK c.ai (oK d.q.path c.now));have h3:=ON c.ai (oK d.q.path c.now);have h4:bz (oK d.q.path c.now)=d.q.path.length+0:=rfl;have h5:bn d.q=d.q.path.length+wL aL d.q.fields+d.q.body.length:=rfl;show aN (ku (dK c (kK c.ai (oK d.q.path c.now))) d.client d.q ⟨if pn c.ai (oK d.q.path c.now)=true then 200 else 503,[],[]⟩ 4)<=_;omega
    ·have ho:=YZ c d.q;unfold Ak;split
     ·have e2:aN (Ba c d.client d.q (eE c.ai d.q c.now))=cx c.ai+wL cm c.aF+wL fB c.seen+wL cL (c.sent++[xM c d.client d.q (eE c.ai d.q c.now)]):=rfl;rw[oT] at e2;have e3:wL cL [xM c d.client d.q (eE c.ai d.q c.now)]=cL (xM c d.client d.q (eE c.ai d.q c.now))+1:=by simp[wL];omega
      have e4:cL (xM c d.client d.q (eE c.ai d.q c.now))=bn d.q+aJ (answer d.q (eE c.ai d.q c.now) c.now)+aU (eE c.ai d.q c.now):=rfl;have e5:=IL d.q (eE c.ai d.q c.now) c.now;have e6:aU (eE c.ai d.q c.now)=(eE c.ai d.q c.now).path.length+wL wS (eE c.ai d.q c.now).names+wL wS (eE c.ai d.q c.now).values+aJ (eE c.ai d.q c.now).resp:=rfl;simp only;omega
     ·have h1:=akr (c:=c) (k:=d.client) (q:=d.q) (f:=⟨d.q,[d.client],eE c.ai d.q c.now,decide (ig c.ai d.q c.now=3)⟩);have h2:cm ⟨d.q,[d.client],eE c.ai d.q c.now,decide (ig c.ai d.q c.now=3)⟩=bn d.q+wL wO [d.client]+aU (eE c.ai d.q c.now):=rfl;have h3:wL wO [d.client]=1:=rfl;simp only;omega
  ·simp only;omega
 split
 ·unfold vY;split
  ·split;·simp only;omega
   ·rename_i f hf;obtain⟨f0,f1,f2,f3⟩:=tg hf;have hw:=(P.q f f3).2.1.2;have hm:=gB (w:=cm) f3;have xN:cm f=bn f.q+wL wO f.who+aU f.old:=rfl;have how:aU f.old=f.old.path.length+wL wS f.old.names+wL wS f.old.values+aJ f.old.resp:=rfl;have hs:=ahe c f.q d.resp;split;·simp only;omega
    ·split
     ·have hmw:=SO f.old.resp d.resp;unfold zu;split;·rename_i hB;unfold MO at hB;simp only[av] at hB;have hO:aU (lu (cH c f.q d.resp) f d.resp)<=1300:=Hp hB.1;have hk:=GQ (cH c f.q d.resp) (lu (cH c f.q d.resp) f d.resp);have ha:=IL f.q (lu (cH c f.q d.resp) f d.resp) (cH c f.q d.resp).now;have hOo:aU (lu (cH c f.q d.resp) f d.resp)=(lu (cH c f.q d.resp) f d.resp).path.length+wL wS (lu (cH c f.q d.resp) f d.resp).names+wL wS (lu (cH c f.q d.resp) f d.resp).values+aJ (lu (cH c f.q d.resp) f d.resp).resp:=rfl;have:=Da (c:=dK (cH c f.q d.resp) (iu (cH c f.q d.resp).ai (lu (cH c f.q d.resp) f d.resp))) (a:=d.a.toNat) (r:=answer f.q (lu (cH c f.q d.resp) f d.resp) (cH c f.q d.resp).now) (kd:=3) hw;simp only;omega
      ·have:=Da (c:=cH c f.q d.resp) (a:=d.a.toNat) (r:=merge f.old.resp d.resp) (kd:=3) hw;simp only;omega
     ·unfold HO;split;·rename_i hB;have hO:=Hp hB;have hk:=GQ (cH c f.q d.resp) (lX f.q d.resp (cH c f.q d.resp).now);have:=Da (c:=dK (cH c f.q d.resp) (iu (cH c f.q d.resp).ai (lX f.q d.resp (cH c f.q d.resp).now))) (a:=d.a.toNat) (r:=d.resp) (kd:=2) hw;simp only;omega
      ·have:=Da (c:=cH c f.q d.resp) (a:=d.a.toNat) (r:=d.resp) (kd:=2) hw;simp only;omega
  ·simp only;omega
 split
 ·unfold va;split;·simp only;omega
  ·rename_i f hf;obtain⟨f0,f1,f2,f3⟩:=tg hf;have hw:=(P.q f f3).2.1.2;have hm:=gB (w:=cm) f3;have xN:cm f=bn f.q+wL wO f.who+aU f.old:=rfl;split;·simp only;omega
   ·have h1:=Da (c:=c) (a:=d.a.toNat) (r:=⟨504,[],[]⟩) (kd:=4) hw;have h0:aJ ⟨504,[],[]⟩=0:=by simp[aJ,wL]
    simp only;omega
 split
 ·unfold wz;split;·have e:aN ⟨c.ai,c.aF,c.now+d.a,c.seen,c.sent⟩=aN c:=rfl;simp only;omega
  ·simp only;omega
 split;·unfold xe;have h2:=T7 c (kK c.ai (xd d.iH c.now));have h3:=ON c.ai (xd d.iH c.now);have h4:bz (xd d.iH c.now)=bz d.iH:=rfl;simp only;omega
 split;·have h1:=EU c.ai.aP;have e2:aN (JF c (dZ c.ai.aP))=(dm (dZ c.ai.aP)+wL cQ c.ai.aC+wL bz c.ai.aG)+wL cm c.aF+wL fB c.seen+wL cL c.sent:=rfl;simp only;omega
 ·have h1:=Jy c.ai.aP d.keep;have h2:=Mm (ic c.ai.aP d.keep);have e2:aN (xw c d.keep)=cx (iw (ic c.ai.aP d.keep))+0+wL fB c.seen+wL cL c.sent:=rfl;simp only;omega
end M
set_option maxHeartbeats 8000000
namespace M
open Go
variable [Fd]
def OV(c:Ca)(d:De)(h:dQ c=true)(hc:aN c<=16000000)(hq:bn d.q<=1100000)(hr:aJ d.resp<=10000000)(hb:bz d.iH<=10000000)(hkp:d.keep.length<=9223372036854775807)(hk:1<=d.kind/\d.kind<=7):ev LI TT 19 [.ptr .own (aI .own c),.agg (ff .af d)]=some (.int .i64 (jI c d).2,[.ptr .own (aI .own (jI c d).1),.dead]):=by
 rw[aE (b:=pR) (rs:=[.t 4]) (n:=2) rfl rfl];have kf:=fR c;have P:=Ep.1 h;have hn:bI c.now:=by have:=P.n;unfold bI;omega
 have hdk:=(si P.s).d;have iK:cx c.ai=dm c.ai.aP+wL cQ c.ai.aC+wL bz c.ai.aG:=rfl;unfold jI;by_cases g1:d.kind=1;·rw[aq g1];have u:=Xv c d P.s hn (by omega) hq;generalize uJ c d.client d.q=R at u⊢;simp[g1] at u;simp -implicitDefEqProofs [pR,pT,pU,g1,u]
 rw[ay g1];by_cases g2:d.kind=2;·rw[aq g2];have u:=XD c d P.s hn (by omega) hr;generalize vY c d.a d.resp=R at u⊢;simp[g2] at u;simp -implicitDefEqProofs [pR,pT,pU,g2,u]
 rw[ay g2];by_cases g3:d.kind=3;·rw[aq g3];have u:=Xy c d.a (by omega);generalize va c d.a=R at u⊢;simp at u;simp -implicitDefEqProofs [pR,pT,pU,g3,u]
 rw[ay g3];by_cases g4:d.kind=4;·rw[aq g4];have u:=XF c d.a P.n;generalize wz c d.a=R at u⊢;simp at u;simp -implicitDefEqProofs [pR,pT,pU,g4,u]
 rw[ay g4];by_cases g5:d.kind=5;·rw[aq g5];have u:=Xw c d.iH P.s (by omega) hb;generalize xe c d.iH=R at u⊢;simp at u;simp -implicitDefEqProofs [pR,pT,pU,g5,u]
 rw[ay g5];by_cases g6:d.kind=6;·rw[aq g6];have u:=Eh c.ai.aP hdk;generalize dZ c.ai.aP=D at u⊢;simp at u;simp -implicitDefEqProofs [pR,pT,pU,g6,u,JF,dK]
 rw[ay g6];have g7:d.kind=7:=by omega
 have u1:=OY c.ai.aP d.keep hdk hkp;have u2:=Jk (ic c.ai.aP d.keep) (Jw d.keep hdk) (by have:=Jy c.ai.aP d.keep;omega);unfold xw;generalize iw (ic c.ai.aP d.keep)=S at u2⊢;generalize ic c.ai.aP d.keep=D at u1 u2;simp at u1 u2;simp -implicitDefEqProofs [pR,g7,u1,u2,pT,pU,pT,pU];all_goals (repeat' split)<;>first|rfl|omega|(simp_all;done)|(simp_all;omega)|skip
def Xs(c:Ca)(d:De)(hc:aN c<=16000000)(hq:bn d.q<=1100000)(hr:aJ d.resp<=10000000)(hb:bz d.iH<=10000000)(hkp:d.keep.length<=9223372036854775807):ev LI TT 8 [.agg (aI .af c),.agg (ff .af d)]=some (.ak [.agg (aI .own (if 1<=d.kind/\d.kind<=7/\dQ c=true then (jI c d).1 else sD)),.int .i64 (if 1<=d.kind/\d.kind<=7/\dQ c=true then (jI c d).2 else 1)],[.dead,.dead]):=by
 rw[aE (b:=xW) (rs:=[.c 4 10 true 42,.t 5]) (n:=2) rfl rfl];have u1:=Ap c (by omega);try simp at u1
 have u2:=Em c (by omega);try simp at u2
 by_cases g1:1<=d.kind/\d.kind<=7;rotate_left;·rw[ay (λx=>g1 ⟨x.1,x.2.1⟩),ay (λx=>g1 ⟨x.1,x.2.1⟩)];simp -implicitDefEqProofs [xW,g1,sD]
 cases g2:dQ c<;>rw[g2] at u1;·rw[ay (by simp),ay (by simp)];simp -implicitDefEqProofs [xW,g1,u1,sD]
 rw[aq ⟨g1.1,g1.2,rfl⟩,aq ⟨g1.1,g1.2,rfl⟩];have v1:=OV c d g2 hc hq hr hb hkp g1;have v2:=Em (jI c d).1 (Y4 c d g2 hc hq hr hb);generalize jI c d=R at v1 v2⊢;simp at v1 v2;simp -implicitDefEqProofs [xW,u1,u2,g1,v1,v2];all_goals (repeat' split)<;>first|rfl|omega|(simp_all;done)|(simp_all;omega)|skip
end M
set_option maxHeartbeats 4000000
namespace M
open Go
variable [Fd]
noncomputable def wj(p:Ca×List Int)(d:De):Ca×List Int:=if 1<=d.kind/\d.kind<=7 then ((jI p.1 d).1,p.2++[(jI p.1 d).2]) else (p.1,p.2++[1])
noncomputable def jS(c:Ca)(l:List De):Ca×List Int:=l.foldl wj (c,[])
def TV:∀(l:List De) (p:Ca×List Int),dQ p.1=true->dQ (l.foldl wj p).1=true
 |[],p,h=>h
 |d::l,p,h=>by
  rw[qJ];refine TV l _ ?_;unfold wj;split;·exact Y3 h
  ·exact h
def MN:∀(l:List De) (p:Ca×List Int),(l.foldl wj p).2.length=p.2.length+l.length
 |[],p=>rfl
 |d::l,p=>by rw[qJ,MN l];unfold wj;split<;>simp<;>omega
structure wZ (d:De):Prop where
 q:bn d.q<=1100000
 r:aJ d.resp<=10000000
 b:bz d.iH<=10000000
 k:d.keep.length<=9223372036854775807
structure IB (c:Ca) (l:List De):Prop where
 d:∀x∈l,wZ x
 w:∀i,i<=l.length->aN (jS c (l.take i)).1<=16000000
def VQ(c:Ca)(l:List De)(hok:dQ c=true)(jm:l.length<=200)(W:IB c l):bh (aA (ev LI TT) (aB TT) xX) [(1,.row .af 15 (l.map (ff .af))),(4,.ptr .own (aI .own sD)),(6,.ptr .own (aI .own c)),(7,.row .own 1 []),(22,.row .af 15 (l.map (ff .af))),(23,.int .i64 l.length),(24,.int .i64 0)]=some (.exit 0,[(1,.row .af 15 (l.map (ff .af))),(4,.ptr .own (aI .own sD)),(6,.ptr .own (aI .own (jS c l).1)),(7,.row .own 1 ((jS c l).2.map eI)),(22,.row .af 15 (l.map (ff .af))),(23,.int .i64 l.length),(24,.int .i64 l.length),(25,.bool false)]):=by
 refine G4 (f:=aA (ev LI TT) (aB TT) xX) l (λi (g:Ca×List Int)=>[(1,.row .af 15 (l.map (ff .af))),(4,.ptr .own (aI .own sD)),(6,.ptr .own (aI .own g.1)),(7,.row .own 1 (g.2.map eI)),(22,.row .af 15 (l.map (ff .af))),(23,.int .i64 l.length),(24,.int .i64 i)]) wj (λg=>[(1,.row .af 15 (l.map (ff .af))),(4,.ptr .own (aI .own sD)),(6,.ptr .own (aI .own g.1)),(7,.row .own 1 (g.2.map eI)),(22,.row .af 15 (l.map (ff .af))),(23,.int .i64 l.length),(24,.int .i64 l.length),(25,.bool false)]) (λi g=>g=jS c (l.take i)) (c,[]) rfl (λi b g hi hl hg=>?_) (λi b g hi hg=>?_) (λg _=>?_)
 ·have hw:=bY i (by omega);have g1:=W.w i (by omega);have g2:g.2.length=i:=by rw[hg];unfold jS;rw[MN];simp;omega
  have g3:dQ g.1=true:=by rw[hg];exact TV _ _ hok
  rw[<-hg] at g1;obtain⟨_,rfl⟩:=aQ.1 hi;have D:=W.d _ (cB hl);have e:(l.map (ff .af))[i]'(by simpa using hl)=ff .af l[i]:=by simp
  unfold wj;generalize hd:l[i]=d at*;clear hg hi;have h8:(i+1)*8<=140737488355328:=by omega
  by_cases gk:1<=d.kind/\d.kind<=7;·have u:=OV g.1 d g3 g1 D.q D.r D.b D.k gk;rw[aq gk];generalize jI g.1 d=R at u⊢;simp at u;simp -implicitDefEqProofs [xX,Fw,hl,hw,hd,gk,u,g2,cZ,h8];try omega
  ·rw[ay gk];simp -implicitDefEqProofs [xX,Fw,hl,hw,hd,gk,g2,cZ,h8];try omega
 ·obtain⟨hl,rfl⟩:=aQ.1 hi;rw[hg];unfold jS;rw[uz hl,List.foldl_append];rfl
 ·simp -implicitDefEqProofs [xX,Fw]
def Xu(c:Ca)(l:List De)(hc:aN c<=16000000)(hl0:l.length<=9223372036854775807)(W:l.length<=200->dQ c=true->IB c l):ev LI TT 13 [.agg (aI .af c),.row .af 15 (l.map (ff .af))]=some (.ak [.agg (aI .own (if l.length<=200/\dQ c=true then (jS c l).1 else c)),.row .own 1 ((if l.length<=200/\dQ c=true then (jS c l).2 else []).map eI)],[.dead,.dead]):=by
 rw[aE (b:=xY) (rs:=[.c 4 10 true 42,.t 5]) (n:=2) rfl rfl];have u1:=Em c (by omega);try simp at u1
 have u2:=Ap c (by omega);try simp at u2
 by_cases g1:l.length<=200;rotate_left
 ·have mV:(200:Int)<l.length:=by omega
  rw[ay (λx=>g1 x.1),ay (λx=>g1 x.1)];simp -implicitDefEqProofs [xY,mV,u1]
 have mV:¬(200:Int)<l.length:=by omega
 cases g2:dQ c<;>rw[g2] at u2;·rw[ay (by simp),ay (by simp)];simp -implicitDefEqProofs [xY,mV,u1,u2]
 rw[aq ⟨g1,rfl⟩,aq ⟨g1,rfl⟩];have u3:=VQ c l g2 g1 (W g1 g2);have u4:=Em (jS c l).1 (by have:=(W g1 g2).w l.length (dc _);rw[qG] at this;omega);generalize jS c l=R at u3 u4⊢;simp[sD] at u3 u4;simp -implicitDefEqProofs [xY,u1,u2,mV,u1,u2,u3,u4];all_goals (repeat' split)<;>first|rfl|omega|(simp_all;done)|(simp_all;omega)|skip
end M
set_option maxHeartbeats 40000000
namespace M
open Go
variable [Fd]
instance:DecidablePred bI:=λn=>inferInstanceAs (Decidable (_/\_))
instance:DecidablePred bS:=λn=>inferInstanceAs (Decidable (_<=_))
instance:DecidablePred bB:=λn=>inferInstanceAs (Decidable True)
instance{α:Type}(b:α->Prop)[DecidablePred b]:DecidablePred (bL b):=λl=>inferInstanceAs (Decidable (_/\_))
instance:DecidablePred IZ:=λx=>decidable_of_iff (bI x.at_/\bS x.text) ⟨λ⟨a0,a1⟩=>⟨a0,a1⟩,λ⟨a0,a1⟩=>⟨a0,a1⟩⟩
instance:DecidablePred IQ:=λx=>decidable_of_iff ((bL bS) x.cells/\(bL IZ) x.pending) ⟨λ⟨a0,a1⟩=>⟨a0,a1⟩,λ⟨a0,a1⟩=>⟨a0,a1⟩⟩
instance:DecidablePred An:=λx=>decidable_of_iff (bS x.name/\bS x.value) ⟨λ⟨a0,a1⟩=>⟨a0,a1⟩,λ⟨a0,a1⟩=>⟨a0,a1⟩⟩
instance:DecidablePred sU:=λx=>decidable_of_iff (bI x.status/\(bL An) x.fields/\bS x.body) ⟨λ⟨a0,a1,a2⟩=>⟨a0,a1,a2⟩,λ⟨a0,a1,a2⟩=>⟨a0,a1,a2⟩⟩
instance:DecidablePred uK:=λx=>decidable_of_iff (bS x.path/\(bL bS) x.names/\(bL bS) x.values/\sU x.resp/\bI x.t) ⟨λ⟨a0,a1,a2,a3,a4⟩=>⟨a0,a1,a2,a3,a4⟩,λ⟨a0,a1,a2,a3,a4⟩=>⟨a0,a1,a2,a3,a4⟩⟩
instance:DecidablePred IV:=λx=>decidable_of_iff (uK x.obj/\bI x.at_/\bI x.seq) ⟨λ⟨a0,a1,a2⟩=>⟨a0,a1,a2⟩,λ⟨a0,a1,a2⟩=>⟨a0,a1,a2⟩⟩
instance:DecidablePred Ec:=λx=>decidable_of_iff (bI x.kind/\bS x.a/\bS x.b/\bI x.t) ⟨λ⟨a0,a1,a2,a3⟩=>⟨a0,a1,a2,a3⟩,λ⟨a0,a1,a2,a3⟩=>⟨a0,a1,a2,a3⟩⟩
instance:DecidablePred IY:=λx=>decidable_of_iff (IQ x.aP/\(bL IV) x.aC/\(bL Ec) x.aG/\bI x.next/\bI x.seq) ⟨λ⟨a0,a1,a2,a3,a4⟩=>⟨a0,a1,a2,a3,a4⟩,λ⟨a0,a1,a2,a3,a4⟩=>⟨a0,a1,a2,a3,a4⟩⟩
instance:DecidablePred sS:=λx=>decidable_of_iff (bI x.method/\bS x.path/\(bL An) x.fields/\bS x.body) ⟨λ⟨a0,a1,a2,a3⟩=>⟨a0,a1,a2,a3⟩,λ⟨a0,a1,a2,a3⟩=>⟨a0,a1,a2,a3⟩⟩
instance:DecidablePred IU:=λx=>decidable_of_iff (sS x.q/\(bL bI) x.who/\uK x.old/\bB x.fO) ⟨λ⟨a0,a1,a2,a3⟩=>⟨a0,a1,a2,a3⟩,λ⟨a0,a1,a2,a3⟩=>⟨a0,a1,a2,a3⟩⟩
instance:DecidablePred IX:=λx=>decidable_of_iff (sS x.q/\sU x.resp/\bI x.t) ⟨λ⟨a0,a1,a2⟩=>⟨a0,a1,a2⟩,λ⟨a0,a1,a2⟩=>⟨a0,a1,a2⟩⟩
instance:DecidablePred IW:=λx=>decidable_of_iff (bI x.client/\sS x.q/\sU x.resp/\bI x.kind/\bI x.t/\uK x.obj/\bI x.aG) ⟨λ⟨a0,a1,a2,a3,a4,a5,a6⟩=>⟨a0,a1,a2,a3,a4,a5,a6⟩,λ⟨a0,a1,a2,a3,a4,a5,a6⟩=>⟨a0,a1,a2,a3,a4,a5,a6⟩⟩
instance:DecidablePred Am:=λx=>decidable_of_iff (IY x.ai/\(bL IU) x.aF/\bI x.now/\(bL IX) x.seen/\(bL IW) x.sent) ⟨λ⟨a0,a1,a2,a3,a4⟩=>⟨a0,a1,a2,a3,a4⟩,λ⟨a0,a1,a2,a3,a4⟩=>⟨a0,a1,a2,a3,a4⟩⟩
def oQ:Rq:=⟨1,[47,112],[],[]⟩
def oR(L:Int):aV:=⟨200,[⟨[99,97,99,104,101,45,99,111,110,116,114,111,108],[109,97,120,45,97,103,101,61]++dn L⟩,⟨[101,116,97,103],[116]⟩],[98]⟩
def eP(k:Int):De:=⟨1,k,oQ,0,⟨0,[],[]⟩,⟨0,[],[],0⟩,[]⟩
def vW(L:Int):De:=⟨2,0,⟨0,[],[],[]⟩,0,oR L,⟨0,[],[],0⟩,[]⟩
def ze:De:=⟨4,0,⟨0,[],[],[]⟩,1,⟨0,[],[]⟩,⟨0,[],[],0⟩,[]⟩
def za:De:=⟨2,0,⟨0,[],[],[]⟩,0,⟨304,[],[]⟩,⟨0,[],[],0⟩,[]⟩
def zc:De:=⟨1,32,⟨4,[47,112],[],[]⟩,0,⟨0,[],[]⟩,⟨0,[],[],0⟩,[]⟩
noncomputable def jU(c:Ca)(d:De):Ca:=if 1<=d.kind/\d.kind<=7/\dQ c=true then (jI c d).1 else sD
noncomputable def ur(c:Ca)(d:De):Int:=if 1<=d.kind/\d.kind<=7/\dQ c=true then (jI c d).2 else 1
noncomputable def oN(L:Int):Nat->Ca
 |0=>(jS mM [eP 1,vW L]).1
 |t+1=>jU (jU (oN L t) (eP (10+t))) ze
noncomputable def oM(L:Int)(t:Nat):Ca:=jU (oN L t) (eP (10+t))
noncomputable def oA(L:Nat):Ca:=jU (oN L L) (eP 30)
noncomputable def oB(L:Nat):Ca:=jU (oA L) za
noncomputable def oC(L:Nat):Ca:=jU (oB L) (eP 31)
noncomputable def oD(L:Nat):Ca:=jU (oC L) zc
noncomputable def oE(L:Nat):Ca:=jU (oD L) (eP 33)
def oF(L:Nat)(h:L<10)(h0:0<L):dQ mM=true/\aN mM<=1000000/\aN (jS mM [eP 1]).1<=1000000/\aN (oN L 0)<=1000000:=by revert L;decide+kernel
def oG(L:Nat)(h:L<10)(t:Nat)(ht:t<10):t<L->ur (oN L t) (eP (10+t))=0/\((oM L t).sent[(oM L t).sent.length - 1]?.map λx=>x.kind)=some 1/\aN (oM L t)<=1000000/\aN (oN L (t+1))<=1000000:=by revert t;revert L;decide+kernel
def oH(L:Nat)(h:L<10)(h0:0<L):aN (oA L)<=1000000/\(oA L).aF.length=1/\((oA L).aF[0]?.map λx=>x.fO)=some true/\aN (oB L)<=1000000/\aN (oC L)<=1000000/\aN (oD L)<=1000000/\aN (oE L)<=1000000:=by revert L;decide+kernel
def oI(L:Nat)(h:L<10)(h0:0<L):Hz (oB L) 30=true/\(zx (oB L) 30).body=[98]/\Hz (oC L) 31=true/\(zx (oC L) 31).body=[98]/\(oE L).sent.foldl wm (0,0)=((L:Int)+1,2)/\(oE L).aF.length=1/\LM (oE L)=true:=by revert L;decide+kernel
def oJ(L:Nat)(h:L<10)(h0:0<L):Am (oE L):=by revert L;decide+kernel
def oU(c:Ca)(d:De)(hc:aN c<=1000000)(hd:wZ d):ev LI TT 8 [.agg (aI .af c),.agg (ff .af d)]=some (.ak [.agg (aI .own (jU c d)),.int .i64 (ur c d)],[.dead,.dead]):=
 Xs c d (by omega) hd.q hd.r hd.b hd.k
def CZ(i:Int):wZ (eP i):=⟨(by decide:bn oQ<=1100000),(by decide:aJ (⟨0,[],[]⟩:aV)<=10000000),(by decide:bz (⟨0,[],[],0⟩:Bn)<=10000000),(by decide:([]:List Bool).length<=9223372036854775807)⟩
def oTW:wZ ze:=⟨by decide,by decide,by decide,by decide⟩
def o3W:wZ za:=⟨by decide,by decide,by decide,by decide⟩
def oPW:wZ zc:=⟨by decide,by decide,by decide,by decide⟩
def oRW(L:Nat)(h:L<10):aJ (oR L)<=10000000:=by revert L;decide+kernel
def oW(L:Nat)(h:L<10)(h0:0<L):IB mM [eP 1,vW L] where
 d:=by
  intro x hx;simp only[bM,mD,mI] at hx;rcases hx with rfl|rfl;·exact CZ 1
  ·exact⟨(by decide:bn (⟨0,[],[],[]⟩:Rq)<=1100000),oRW L h,(by decide:bz (⟨0,[],[],0⟩:Bn)<=10000000),(by decide:([]:List Bool).length<=9223372036854775807)⟩
 w:=by
  intro i hi;obtain⟨_,f1,f2,f3⟩:=oF L h h0;match i,hi with
  |0,_=>exact jB f1 (by decide)
  |1,_=>exact jB f2 (by decide)
  |2,_=>exact jB f3 (by decide)
def oS0(L t:Nat)(hL:L<10)(ht:t<L)(hc:aN (oN L t)<=1000000):aA (ev LI TT) (aB TT) yM [(3,.int .i64 L),(4,.ptr .own (dN .sl oQ)),(6,.ptr .own (aI .own (oN L t))),(8,.int .i64 t)]=some (.normal,[(3,.int .i64 L),(4,.ptr .own (dN .sl oQ)),(6,.ptr .own (aI .own (oN L (t+1)))),(8,.int .i64 ((t:Int)+1))]):=by
 obtain⟨f1,f2,f3,f4⟩:=oG L hL t (by omega) ht;have vr:=jB (MS (oM L t)) f3;have u1:=oU (oN L t) (eP (10+t)) hc (CZ _);have u2:=oU (oM L t) ze f3 oTW;rw[f1,show jU (oN L t) (eP (10+t))=oM L t from rfl] at u1;rw[show jU (oM L t) ze=oN L (t+1) from rfl] at u2;generalize ur (oM L t) ze=w at u2;generalize oN L (t+1)=c2 at u2⊢;generalize oM L t=c1 at u1 u2 f2 vr;generalize oN L t=c at u1⊢;have hw:=bY t (by omega);have dF:IntKind.i64.wrap (10+(t:Int))=10+(t:Int):=dz (by omega) (by omega);obtain⟨x,f2,f5⟩:=lD.1 f2;obtain⟨hm,rfl⟩:=aQ.1 f2;obtain⟨m,hl⟩:∃m,c1.sent.length=m+1:=⟨c1.sent.length - 1,by omega⟩
 have f6:(c1.sent[m]'(by omega)).kind=1:=by
  have:c1.sent.length - 1=m:=by omega
  simpa [this] using f5
 have oa:IntKind.i64.wrap (m:Int)=m:=dz (by omega) (by omega);simp[eP,oQ] at u1;simp[ze] at u2;simp(maxSteps:=2000000) -implicitDefEqProofs [yM,LU,oQ,u1,u2,hw,dF,oa,ht,hl,f6,ghost,kR,gX,pK,lY,X.pfx,iz]
def oX0(L:Nat)(c:Ca):aA (ev LI TT) (aB TT) yM [(3,.int .i64 L),(4,.ptr .own (dN .sl oQ)),(6,.ptr .own (aI .own c)),(8,.int .i64 L)]=some (.exit 0,[(3,.int .i64 L),(4,.ptr .own (dN .sl oQ)),(6,.ptr .own (aI .own c)),(8,.int .i64 L),(46,.bool false)]):=by simp(maxSteps:=2000000) -implicitDefEqProofs [yM,LU,oQ]
def S0(L:Nat)(h:L<10)(h0:0<L):∀t,t<=L->aN (oN L t)<=1000000
 |0,_=>(oF L h h0).2.2.2
 |t+1,ht=>(oG L h t (by omega) (by omega)).2.2.2
def SZ(L:Nat)(hL:L<10)(h0:0<L):∀(k t:Nat),t+k=L->bh (aA (ev LI TT) (aB TT) yM) [(3,.int .i64 L),(4,.ptr .own (dN .sl oQ)),(6,.ptr .own (aI .own (oN L t))),(8,.int .i64 t)]=some (.exit 0,[(3,.int .i64 L),(4,.ptr .own (dN .sl oQ)),(6,.ptr .own (aI .own (oN L L))),(8,.int .i64 L),(46,.bool false)])
 |0,t,h=>by
  obtain rfl:t=L:=by omega
  rw[fm,oX0];rfl
 |k+1,t,h=>by rw[fm,oS0 L t hL (by omega) (S0 L hL h0 t (by omega))];exact SZ L hL h0 k (t+1) (by omega)
def anD(code:List UInt8)(k:code.length<=9223372036854775807/\∀b∈code,True):∃ps,ev LI TT 4 [.row .sl 1 (code.map eU)]=some (.bool true,ps):=by
 rw[aE (b:=CO) (rs:=[.t 2]) (n:=1) rfl rfl];have h1:=Yp code;by_cases hbig:1048576<code.length;·simp(maxSteps:=2000000) -implicitDefEqProofs [CO,h1,hbig]
 obtain⟨a,ha,u2⟩:=Yo code (by omega);obtain⟨L,hL⟩:∃L:Nat,L=1+a%9:=⟨_,rfl⟩;have hw1:(a:Int).tmod 9=((a%9:Nat):Int):=by rw[Ip (by omega)];omega
 have dF:IntKind.i64.wrap (((a%9:Nat)):Int)=((a%9:Nat):Int):=dz (by omega) (by omega);have oa:IntKind.i64.wrap (1+(a:Int)%9)=(L:Int):=by rw[dz (by omega) (by omega)];omega
 have Fo:IntKind.i64.wrap ((L:Int)+1)=(L:Int)+1:=dz (by omega) (by omega);have h9:L<10:=by omega
 have h0:0<L:=by omega
 have hnl:8+(dn (L:Int)).length<=9223372036854775807:=by have:=vV (L:Int);omega
 have hst:(⟨#[109,97,120,45,97,103,101,61]⟩:ByteArray)++⟨(dn (L:Int)).toArray⟩=⟨(109::97::120::45::97::103::101::61::dn (L:Int)).toArray⟩:=by rw[show (⟨#[109,97,120,45,97,103,101,61]⟩:ByteArray)=⟨([109,97,120,45,97,103,101,61]:ah).toArray⟩ from rfl,sn];simp
 have uN:=Ei (L:Int);have u3:=Xt;obtain⟨f1,f2,f3,f4⟩:=oF L h9 h0;have u4:=Xu mM [eP 1,vW L] (by omega) (by simp) (λ_ _=>oW L h9 h0);rw[aq ⟨by simp,f1⟩,aq ⟨by simp,f1⟩,show (jS mM [eP 1,vW L]).1=oN L 0 from rfl] at u4;have hcs:(jS mM [eP 1,vW L]).2.length=2:=by unfold jS;rw[MN];rfl
 generalize (jS mM [eP 1,vW L]).2=cs at u4 hcs;have u5:=SZ L h9 h0 L 0 (by omega);obtain⟨a1,a2,a3,a4,a5,a6,a7⟩:=oH L h9 h0;obtain⟨b1,b2,b3,b4,b5,b6,b7⟩:=oI L h9 h0;have u6:=oU (oN L L) (eP 30) (S0 L h9 h0 L (by omega)) (CZ 30);have u7:=oU (oA L) za a1 o3W;have u8:=O7 (oB L) 30 (by omega);have u9:=oU (oB L) (eP 31) a4 (CZ 31);have v1:=O7 (oC L) 31 (by omega);have v2:=oU (oC L) zc a5 oPW;have v3:=oU (oD L) (eP 33) a6 (CZ 33);have v4:=XZ (oE L) (by omega);have v5:=XO (oE L) (by omega) (oJ L h9 h0);rw[show jU (oN L L) (eP 30)=oA L from rfl] at u6;rw[show jU (oA L) za=oB L from rfl] at u7;rw[show jU (oB L) (eP 31)=oC L from rfl] at u9;rw[show jU (oC L) zc=oD L from rfl] at v2;rw[show jU (oD L) (eP 33)=oE L from rfl] at v3;rw[b1] at u8;rw[b3] at v1;rw[b5] at v4;rw[b7] at v5;obtain⟨f,e1,e2⟩:=lD.1 a3;obtain⟨hf,rfl⟩:=aQ.1 e1;generalize ur (oN L L) (eP 30)=i1 at u6;generalize ur (oA L) za=i2 at u7;generalize ur (oB L) (eP 31)=i3 at u9;generalize ur (oC L) zc=i4 at v2;generalize ur (oD L) (eP 33)=i5 at v3;generalize zx (oB L) 30=r1 at u8 b2;generalize zx (oC L) 31=r2 at v1 b4;clear a1 a4 a5 a6 a7 b1 b3 b5 b7 e1 a3;generalize oE L=c6 at v3 v4 v5 b6;generalize oD L=c5 at v2 v3;generalize oC L=c4 at u9 v1 v2;generalize oB L=c3 at u7 u8 u9;generalize oA L=c2 at*;generalize oN L L=c1 at*;generalize oN L 0=c0 at*;generalize mM=cn at*;simp[eP,vW,oR,oQ] at u4;simp[oQ] at u5;simp[eP,oQ,za,zc] at u6 u7 u9 v2 v3;simp at u3 u8 v1 v4 v5;simp(maxSteps:=2000000) -implicitDefEqProofs [CO,LV,LW,L3,GU,L4,CP,GV,GW,L5,GX,LX,LY,LZ,GS,L0,L1,L2,h1,hbig,u2,hw1,dF,oa,Fo,hnl,hst,uN,u3,u4,u5,u6,u7,u8,u9,v1,v2,v3,v4,v5,hcs,a2,e2,b2,b4,b6,ghost,kR,gX,pK,lY,X.pfx,iz]
end M
