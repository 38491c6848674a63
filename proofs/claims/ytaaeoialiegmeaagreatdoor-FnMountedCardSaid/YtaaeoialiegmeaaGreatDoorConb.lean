/- What the functions come to in the machine; no conditions. -/
import Derived.Test.YtaaeoialiegmeaaGreatDoorCona
import Derived.Test.YtaaeoialiegmeaaGreatDoorMc
set_option linter.defProp false
set_option linter.unusedSectionVars false
set_option linter.unusedVariables false
set_option linter.unusedSimpArgs false
set_option maxHeartbeats 4000000
namespace M
open Go
def Lb(d:aQ):wL aT (dw d).1<=1000:=by have:=Bo d;have:=oJ (w:=aT) (n:=120) (m:=5) (l:=(dw d).1) (λb hb=>Xd (this.1 b hb)) this.2.1;omega
def VK(d:aQ)(bs:List Bn)(m:Int)(hd:bJ d=true)(hwd:bh d<=16777216)(J6:wL aT bs<=1000)(hm:0<=m/\m<100000):
  aI (aj (ev LI TT) (aq TT) pR) [(0,.ax 100000 [] 0 0),(3,.row .own 9 []),(4,.int .i64 5),(100000,.ptr .own (aH .own ⟨d,[],bs,5,m+1⟩))]=
  some (.exit 0,[(0,.ax 100000 [] 0 0),(3,.row .own 9 ((jd bs d m).1.map (aE .own))),(4,.int .i64 20),(11,.bool false),(100000,.ptr .own (aH .own ⟨d,[],bs,5,(jd bs d m).2+1⟩))]):=by
 obtain⟨k0,k1,k2⟩:=fL hd
 have:=gT (xt:=0) (f:=aj (ev LI TT) (aq TT) pR) (List.range 15) (λi (g:List Kp×Int)=>[(0,.ax 100000 [] 0 0),(3,.row .own 9 (g.1.map (aE .own))),(4,.int .i64 ((5+i:Nat):Int)),(100000,.ptr .own (aH .own ⟨d,[],bs,5,g.2+1⟩))]) (kE bs d)
  (λg=>[(0,.ax 100000 [] 0 0),(3,.row .own 9 (g.1.map (aE .own))),(4,.int .i64 20),(11,.bool false),(100000,.ptr .own (aH .own ⟨d,[],bs,5,g.2+1⟩))])
  (λi g=>i<=15/\tB i g) ([],m) ⟨by omega,⟨by simp,by simp,hm,by simp,by simp,by simp⟩⟩ (λi b g hi hl hg=>?_) (λi b g hi hg=>?_) (λg hg=>?_)
 ·refine yZ ?_ this;simp
 ·have ud:i<15:=by simpa using hl
  obtain⟨at_,ij⟩:∃a,((5+i:Nat):Int)=a:=⟨_,rfl⟩;have eN:at_<20:=by omega
  have hw:IntKind.i64.wrap (at_+1)=at_+1:=bX (by omega) (by omega);have EC:((5+(i+1):Nat):Int)=at_+1:=by omega
  have u1:=OB d at_ (by omega) (by omega) (by omega);have Ki:=En d at_;have u2:=OG (cC d at_) (by omega);have hrl:=FT (cC d at_);have mP:=FU (cC d at_);have u3:=XD (cx (cC d at_)).2.1 (by omega);have how:=SC (cx (cC d at_)).2.1;have lS:=hg.2.n;have hlz:(g.1.length+1)*136<=140737488355328:=by omega
  have hgm:=hg.2.m;unfold kE;rw[ij,EC];generalize cx (cC d at_)=rr at u2 u3 hrl mP how⊢;obtain⟨n,bd,ok⟩:=rr;simp only at u2 u3 hrl mP how⊢;generalize gU bd=br at u3 how⊢;obtain⟨⟨op,on,ov,⟨rs,rf,rb⟩,ot⟩,tI⟩:=br;simp only at how;have u4:=OM ⟨d,[],bs,5,g.2+1⟩ n (by simp only;omega) (by omega);have u5:=OD bs ⟨op,on,ov,⟨rs,rf,rb⟩,ot⟩ (by omega) (by omega);simp only at u5⊢;generalize fI bs ⟨op,on,ov,⟨rs,rf,rb⟩,ot⟩=hb at u5⊢;simp at u1 u2 u3;cases ok;·simp -implicitDefEqProofs [pR,uw,eN,hw,u1,u2,u3,lv]
  cases tI;·simp -implicitDefEqProofs [pR,uw,eN,hw,u1,u2,u3,lv]
  by_cases gq:n<100000;rotate_left
  ·have pz:100000<=n:=by omega
   simp -implicitDefEqProofs [pR,uw,eN,hw,u1,u2,u3,lv,gq,pz]
  have pz:¬100000<=n:=by omega
  have uf:(if n<100000 then max (g.2+1) (n+1) else g.2+1)=max g.2 n+1:=by rw[au gq];omega
  simp only[uf] at u4;simp at u4 u5;cases hb;·simp -implicitDefEqProofs [pR,uw,eN,hw,u1,u2,u3,u4,u5,lv,hlz,bY,gq,pz]
  ·simp -implicitDefEqProofs [pR,uw,eN,hw,u1,u2,u3,u4,u5,lv,gq,pz]
 ·have ud:i<15:=by have:=(aL.1 hi).1;simpa using this
  exact⟨by omega,Le bs d ud b hg.2⟩
 ·simp -implicitDefEqProofs [pR,uw]
def XJ(d:aQ)(bs:List Bn)(m:Int)(hd:bJ d=true)(hwd:bh d<=16777216)(J6:wL aT bs<=1000)(hm:0<=m/\m<100000):ev LI TT 202 [.ptr .own (aH .own ⟨d,[],bs,5,m+1⟩)]=some (.row .own 9 ((gF Kp.seq (jd bs d m).1).map (aE .own)),[.ptr .own (aH .own ⟨d,[],bs,5,(jd bs d m).2+1⟩)]):=by
 rw[ay (b:=E0) (rs:=[.t 2]) (n:=1) rfl rfl];have u1:=VK d bs m hd hwd J6 hm;try simp at u1
 have u2:=Yq (jd bs d m).1 (adY bs d m hm);try simp at u2
 simp -implicitDefEqProofs [E0,u1,u2];all_goals (repeat' split)<;>first|rfl|omega|(simp_all;done)|(simp_all;omega)|skip
def XU(x k:Kp)(hx:b8 x.obj<=1073741824)(hk:b8 k.obj<=1073741824):ev LI TT 203 [.agg (aE .af x),.ptr .af (aE .af k)]=some (.bool (decide (x.seq=k.seq)||gZ x.obj k.obj),[.dead,.dead]):=by
 rw[ay (b:=Fk) (rs:=[.t 3]) (n:=2) rfl rfl];have u1:=XR x.obj k.obj hx hk;try simp at u1
 by_cases g:x.seq=k.seq;all_goals
 simp -implicitDefEqProofs [Fk,u1,g];all_goals (repeat' split)<;>first|rfl|omega|(simp_all;done)|(simp_all;omega)|skip
def VI(d:aQ)(bs:List Bn)(sq:Int)(all:List Kp)(pJ:all.length<=15)(hall:∀k∈all,vT k):
  aI (aj (ev LI TT) (aq TT) wX) [(2,.ptr .own (aH .own ⟨⟨[],[]⟩,[],[],0,0⟩)),(3,.ptr .own (aH .own ⟨d,[],bs,5,sq⟩)),(4,.row .own 9 (all.map (aE .own))),(12,.ref 4 []),(13,.int .i64 all.length),(14,.int .i64 0)]=
  some (.exit 0,[(2,.ptr .own (aH .own ⟨⟨[],[]⟩,[],[],0,0⟩)),(3,.ptr .own (aH .own ⟨d,(kD all).1,bs,(kD all).2,sq⟩)),(4,.row .own 9 (all.map dc)),(12,.ref 4 []),(13,.int .i64 all.length),(14,.int .i64 all.length),(15,.bool false)]):=by
 have:=gT (xt:=0) (f:=aj (ev LI TT) (aq TT) wX) all (λi (g:List Kp×Int)=>[(2,.ptr .own (aH .own ⟨⟨[],[]⟩,[],[],0,0⟩)),(3,.ptr .own (aH .own ⟨d,g.1,bs,g.2,sq⟩)),(4,.row .own 9 ((all.take i).map dc++(all.drop i).map (aE .own))),(12,.ref 4 []),(13,.int .i64 all.length),(14,.int .i64 i)]) (mY all)
  (λg=>[(2,.ptr .own (aH .own ⟨⟨[],[]⟩,[],[],0,0⟩)),(3,.ptr .own (aH .own ⟨d,g.1,bs,g.2,sq⟩)),(4,.row .own 9 (all.map dc)),(12,.ref 4 []),(13,.int .i64 all.length),(14,.int .i64 all.length),(15,.bool false)])
  (λi g=>g.1.length<=i) ([],5) (by simp) (λi b g hi hl hg=>?_) (λi b g hi hg=>?_) (λg hg=>?_)
 ·rw[RS] at this;refine yZ ?_ this;simp
 ·obtain⟨_,rfl⟩:=aL.1 hi;have hw:=aU i (by omega);have hlz:(g.1.length+1)*136<=140737488355328:=by omega
  obtain⟨T,hT⟩:∃T,(all.take i).map dc++(all.drop i).map (aE .own)=T:=⟨_,rfl⟩;have hk:=hall _ (cy hl);have u1:=Pe (all.drop (i+1)) all[i] 203 (λx=>decide (x.seq=(all[i]).seq)||gZ x.obj (all[i]).obj) rfl (λx hx=>XU x all[i] (by have:=uI (hall x (UZ hx)).o;omega) (by have:=uI hk.o;omega)) (by simp;omega);have u2:=XP (all[i]).at_ hk.a;have hlb:nW all i all[i]= !aX (λx=> !(decide (x.seq=(all[i]).seq)||gZ x.obj (all[i]).obj)) (all.drop (i+1)):=by unfold nW aX;rw[Vc];simp
  have tZ:T.length=all.length:=by rw[<-hT];simp;omega
  have iG:i<T.length:=by omega
  have e:all.drop i=all[i]::all.drop (i+1):=qK hl;have rK:((all.take i).map dc).length=i:=by rw[cZ,IA];omega
  have jw:T[i]=aE .own all[i]:=by
   have h2:T[i]?=some (aE .own all[i]):=by rw[<-hT,iB (by omega),rK,yV,e];rfl
   exact(aL.1 h2).2
  have QZ:T.set i (dc all[i])=(all.take (i+1)).map dc++(all.drop (i+1)).map (aE .own):=by rw[<-hT,C5 _ _ (by omega),rK,yV,e,bn,C6,oO hl,iS,lH];rfl
  have hml:∀(l:List (List X)),X.bV .af l=l.map (X.dS .af):=λl=>by
   induction l with
   |nil=>rfl
   |cons a l ih=>simp[X.bV,ih]
  have kA:((X.bV .af (T.set i (dc all[i]))).take all.length).drop (i+1)=(all.map (aE .af)).drop (i+1):=by
   have hd1:(((all.take (i+1)).map dc).map (X.dS .af)).length=i+1:=by rw[cZ,cZ,IA];omega
   rw[s8 (by rw[hml,cZ,Iz];omega),QZ,hml,iS];rw[List.drop_left' hd1,cH,<-lE];apply b7;intro x _;simp
  have hm:=rZ T i _ (aL.2 ⟨iG,jw⟩);rw[hT,<-QZ];unfold mY;rw[hlb];generalize aX (λx=> !(decide (x.seq=(all[i]).seq)||gZ x.obj (all[i]).obj)) (all.drop (i+1))=q at u1⊢;have eN:(i:Int)<all.length:=by omega
  have EL:(i:Int)+1<=all.length:=by omega
  have hc0:(0:Int)<=(i:Int)+1:=by omega
  have ho:aq TT 203=true:=rfl;have htk:T.take all.length=T:=s8 (by omega);rw[<-tZ] at htk;try simp[dc] at u1 u2 jw hm kA
  cases q;·simp -implicitDefEqProofs [wX,Fm,hl,eN,hw,iG,tZ,jw,hm,kA,EL,hc0,u1,u2,sX,jZ,gV,fN,bY,hlz,dc,htk]
  ·simp -implicitDefEqProofs [wX,Fm,hl,eN,hw,iG,tZ,jw,hm,kA,EL,hc0,u1,u2,sX,jZ,gV,fN,bY,hlz,dc,htk]
 ·unfold mY;split;·omega
  ·simp;omega
 ·simp -implicitDefEqProofs [wX,Fm]
end M
set_option maxHeartbeats 4000000
namespace M
open Go
def eR:Sh:=⟨⟨List.replicate 20 [],[]⟩,[],[],5,1⟩
def Xw:ev LI TT 109 []=some (.agg (bU .own ⟨List.replicate 20 [],[]⟩),[]):=by rw[ay (b:=EP) (rs:=[.c 0 2 true 50]) (n:=0) rfl rfl];simp -implicitDefEqProofs [EP];all_goals (repeat' split)<;>first|rfl|omega|(simp_all;done)|(simp_all;omega)|skip
def OV:ev LI TT 207 []=some (.agg (bU .own ⟨List.replicate 20 [],[]⟩),[]):=by rw[ay (b:=F7) (rs:=[.c 0 2 true 50]) (n:=0) rfl rfl];simp -implicitDefEqProofs [F7];all_goals (repeat' split)<;>first|rfl|omega|(simp_all;done)|(simp_all;omega)|skip
def XH:ev LI TT 32 []=some (.agg (aH .own eR),[]):=by
 rw[ay (b:=EY) (rs:=[.c 0 6 true 54]) (n:=0) rfl rfl];have u1:=Xw;try simp at u1
 simp -implicitDefEqProofs [EY,u1,eR];all_goals (repeat' split)<;>first|rfl|omega|(simp_all;done)|(simp_all;omega)|skip
def O3:ev LI TT 130 []=some (.agg (aH .own eR),[]):=by
 rw[ay (b:=Gl) (rs:=[.c 0 6 true 54]) (n:=0) rfl rfl];have u1:=OV;try simp at u1
 simp -implicitDefEqProofs [Gl,u1,eR];all_goals (repeat' split)<;>first|rfl|omega|(simp_all;done)|(simp_all;omega)|skip
def XT(d:aQ)(hd:bJ d=true)(hwd:bh d<=16777216):ev LI TT 128 [.agg (bU .own d)]=some (.agg (aH .own (dY d)),[.dead]):=by rw[ay (b:=Fo) (rs:=[.c 2 6 true 54]) (n:=1) rfl rfl];have B:=Bo d;have O:=xl d;have u1:=XI d hd hwd;have u2:=XJ d (dw d).1 (dw d).2 hd hwd (Lb d) B.2.2;have u3:=VI d (dw d).1 ((fF d).2+1) (eO d) (K9 d) (λk hk=>(Bm hk).1);rw[show jd (dw d).1 d (dw d).2=fF d from rfl,show gF Kp.seq (fF d).1=eO d from rfl] at u2;have e:dY d=⟨d,(kD (eO d)).1,(dw d).1,(kD (eO d)).2,(fF d).2+1⟩:=rfl;rw[e];clear e B O;generalize kD (eO d)=lk at u3⊢;generalize eO d=all at u2 u3;generalize fF d=od at u2 u3⊢;generalize dw d=mb at u1 u2 u3⊢;obtain⟨ai,nx⟩:=lk;obtain⟨od1,od2⟩:=od;obtain⟨bs,ms⟩:=mb;simp at u1 u2 u3;simp -implicitDefEqProofs [Fo,u1,u2,u3];all_goals (repeat' split)<;>first|rfl|omega|(simp_all;done)|(simp_all;omega)|skip
noncomputable def dh(d:aQ):Sh:=if bJ d=true then dY d else eR
def OE(d:aQ)(hwd:bh d<=16777216):ev LI TT 41 [.agg (bU .af d)]=some (.agg (aH .own (dh d)),[.dead]):=by
 rw[ay (b:=AM) (rs:=[.c 2 6 true 54]) (n:=1) rfl rfl];have EM:bh d=wL wS d.cells+wL cS d.pending:=rfl;have l1:=bE (w:=wS) d.cells;have l2:=bE (w:=cS) d.pending;unfold dh;have u1:=I5 d (by omega);try simp at u1
 have u2:=OQ d (by omega) (by omega);try simp at u2
 by_cases g:bJ d=true;rotate_left;·have u3:=XH;rw[show bJ d=false by simpa using g] at u1⊢;simp at u1 u3;simp -implicitDefEqProofs [AM,u1,u3]
 have u3:=XT d g hwd;rw[g] at u1⊢;simp at u1 u3;simp -implicitDefEqProofs [AM,u1,u2,u1,u3];all_goals (repeat' split)<;>first|rfl|omega|(simp_all;done)|(simp_all;omega)|skip
def RC{α:Type}(q:α->Int)(k:α):∀(l:List α) (g:List α×Bool),(l.foldl (jA q k) g).1.length<=g.1.length+2*l.length
 |[],g=>by simp
 |x::l,g=>by
  rw[nE];have h:=RC q k l (jA q k g x);have h2:(jA q k g x).1.length<=g.1.length+2:=by unfold jA;(try dsimp only);split<;>simp
  simp only[cu];omega
def CZ{n m:Nat}(h:n<=m)(hm:m<=100000:=by decide):(n+1)*136<=140737488355328:=by omega
def IC{i n:Nat}(h:i<n)(hb:n<=1000):i<9223372036854775807:=by omega
def WH(T:List (List X))(n i:Nat)(k x:Kp)(out:List Kp)(iG:i<T.length)(hb:T.length<=1000)(jw:T[i]=aE .own x)(ho:out.length<=1000)(hq:k.seq<x.seq):
  aj (ev LI TT) (aq TT) oE [(0,.ref 100000 []),(3,.ptr .own (aE .own k)),(5,.row .own 9 (out.map (aE .own))),(6,.bool false),(7,.int .i64 i),(100000,.row .own 9 T)]=some (.normal,[(0,.ref 100000 []),(3,.ptr .own (dc k)),(5,.row .own 9 ((out++[k,x]).map (aE .own))),(6,.bool true),(7,.int .i64 ((i+1:Nat):Int)),(100000,.row .own 9 (T.set i (dc x)))]):=by
 have hz1:=CZ ho;have hz2:=CZ (Nat.succ_le_succ ho);have rF:(i:Int)<T.length:=Db.2 iG;have hw:=aU i (IC iG hb);have hm:=rZ T i _ (aL.2 ⟨iG,jw⟩);try simp at jw hm
 simp -implicitDefEqProofs [oE,Cu,iG,rF,jw,hm,sX,hz1,hz2,hq,hw,bY,dc]
def WI(T:List (List X))(n i:Nat)(k x:Kp)(out:List Kp)(iG:i<T.length)(hb:T.length<=1000)(jw:T[i]=aE .own x)(ho:out.length<=1000)(hq:¬k.seq<x.seq):
  aj (ev LI TT) (aq TT) oE [(0,.ref 100000 []),(3,.ptr .own (aE .own k)),(5,.row .own 9 (out.map (aE .own))),(6,.bool false),(7,.int .i64 i),(100000,.row .own 9 T)]=some (.normal,[(0,.ref 100000 []),(3,.ptr .own (aE .own k)),(5,.row .own 9 ((out++[x]).map (aE .own))),(6,.bool false),(7,.int .i64 ((i+1:Nat):Int)),(100000,.row .own 9 (T.set i (dc x)))]):=by
 have hz1:=CZ ho;have rF:(i:Int)<T.length:=Db.2 iG;have hw:=aU i (IC iG hb);have hm:=rZ T i _ (aL.2 ⟨iG,jw⟩);try simp at jw hm
 simp -implicitDefEqProofs [oE,Cu,iG,rF,jw,hm,sX,hz1,hq,hw,bY,dc]
def WJ(T:List (List X))(n i:Nat)(k x:Kp)(out:List Kp)(iG:i<T.length)(hb:T.length<=1000)(jw:T[i]=aE .own x)(ho:out.length<=1000):
  aj (ev LI TT) (aq TT) oE [(0,.ref 100000 []),(3,.ptr .own (dc k)),(5,.row .own 9 (out.map (aE .own))),(6,.bool true),(7,.int .i64 i),(100000,.row .own 9 T)]=some (.normal,[(0,.ref 100000 []),(3,.ptr .own (dc k)),(5,.row .own 9 ((out++[x]).map (aE .own))),(6,.bool true),(7,.int .i64 ((i+1:Nat):Int)),(100000,.row .own 9 (T.set i (dc x)))]):=by
 have hz1:=CZ ho;have rF:(i:Int)<T.length:=Db.2 iG;have hw:=aU i (IC iG hb);have hm:=rZ T i _ (aL.2 ⟨iG,jw⟩);try simp at jw hm
 simp -implicitDefEqProofs [oE,Cu,iG,rF,jw,hm,sX,hz1,hw,bY,dc]
def af1(l:List Kp)(i:Nat)(hl:i<l.length)(hb:l.length<=15):((l.take i).map dc++(l.drop i).map (aE .own)).length=l.length/\((l.take i).map dc++(l.drop i).map (aE .own))[i]?=some (aE .own l[i])/\((l.take i).map dc++(l.drop i).map (aE .own)).set i (dc l[i])=(l.take (i+1)).map dc++(l.drop (i+1)).map (aE .own):=by
 have e:l.drop i=l[i]::l.drop (i+1):=qK hl;have rK:((l.take i).map dc).length=i:=by rw[cZ,IA];omega
 refine⟨by simp;omega,?_,?_⟩;·rw[iB (by omega),rK,yV,e];rfl
 ·rw[C5 _ _ (by omega),rK,yV,e,bn,C6,oO hl,iS,lH];rfl
def qB(k:Kp)(b:Bool):List X:=if b=true then dc k else aE .own k
def agm(ks:List Nat)(k:Kp)(b:Bool):X.nj ks (qB k b)=qB k b:=by cases b<;>simp[qB,dc]
def Wl(l:List Kp)(k:Kp)(pJ:l.length<=15):
  aI (aj (ev LI TT) (aq TT) oE) [(0,.ref 100000 []),(3,.ptr .own (aE .own k)),(5,.row .own 9 []),(6,.bool false),(7,.int .i64 0),(100000,.row .own 9 (l.map (aE .own)))]=some (.exit 0,[(0,.ref 100000 []),(3,.ptr .own (qB k (l.foldl (jA Kp.seq k) ([],false)).2)),(5,.row .own 9 ((l.foldl (jA Kp.seq k) ([],false)).1.map (aE .own))),(6,.bool (l.foldl (jA Kp.seq k) ([],false)).2),(7,.int .i64 l.length),(12,.bool false),(100000,.row .own 9 (l.map dc))]):=by
 have:=gT (xt:=0) (f:=aj (ev LI TT) (aq TT) oE) l (λi (g:List Kp×Bool)=>[(0,.ref 100000 []),(3,.ptr .own (qB k g.2)),(5,.row .own 9 (g.1.map (aE .own))),(6,.bool g.2),(7,.int .i64 i),(100000,.row .own 9 ((l.take i).map dc++(l.drop i).map (aE .own)))]) (λ_ g x=>jA Kp.seq k g x)
  (λg=>[(0,.ref 100000 []),(3,.ptr .own (qB k g.2)),(5,.row .own 9 (g.1.map (aE .own))),(6,.bool g.2),(7,.int .i64 l.length),(12,.bool false),(100000,.row .own 9 (l.map dc))])
  (λi g=>g.1.length<=2*i) ([],false) (by simp) (λi b g hi hl hg=>?_) (λi b g hi hg=>?_) (λg hg=>?_)
 ·rw[JO] at this;refine yZ ?_ this;simp[qB]
 ·obtain⟨_,rfl⟩:=aL.1 hi;obtain⟨r1,r2,r3⟩:=af1 l i hl pJ;rw[<-r3];generalize (l.take i).map dc++(l.drop i).map (aE .own)=T at r1 r2⊢;obtain⟨q1,q2⟩:=aL.1 r2;obtain⟨out,pt⟩:=g;simp only at hg;unfold jA qB;cases pt
  ·by_cases hq:k.seq<(l[i]).seq;·have:=WH T 0 i k l[i] out q1 (by omega) q2 (by omega) hq;simp only[hq,fA,dQ,yX,cY,decide_true,Bool.or_true];exact this
   ·have:=WI T 0 i k l[i] out q1 (by omega) q2 (by omega) hq;simp only[hq,fA,dQ,and_false,NI,Bool.or_false];exact this
  ·have:=WJ T 0 i k l[i] out q1 (by omega) q2 (by omega);simp only[NM,dQ,cY,false_and,Bool.true_or];exact this
 ·unfold jA;simp only;split<;>simp<;>omega
 ·simp -implicitDefEqProofs [oE,Cu,agm]
def Ye(l:List Kp)(k:Kp)(pJ:l.length<=15):ev LI TT 136 [.row .own 9 (l.map (aE .own)),.agg (aE .own k)]=some (.row .own 9 ((eE Kp.seq k l).map (aE .own)),[.dead,.dead]):=by
 rw[ay (b:=GU) (rs:=[.t 4]) (n:=2) rfl rfl];have u1:=Wl l k pJ;have hi:=adf Kp.seq k l [];simp only[j7] at hi;rw[<-hi];have hlen:=RC Kp.seq k l ([],false);generalize l.foldl (jA Kp.seq k) ([],false)=g at u1 hlen⊢;obtain⟨out,pt⟩:=g;simp only[iC] at hlen;have hz1:(out.length+1)*136<=140737488355328:=by omega
 unfold Ft;unfold qB at u1;cases pt;all_goals simp at u1
 all_goals
 simp -implicitDefEqProofs [GU,u1,hz1,bY];all_goals (repeat' split)<;>first|rfl|omega|(simp_all;done)|(simp_all;omega)|skip
def Ol{α:Type}(p:α->Bool):∀(l:List α) (i:Nat) (g:Bool),foldI (λ_ (g:Bool) x=>g && p x) i l g=(g && aX p l)
 |[],i,g=>by simp[foldI,aX]
 |x::l,i,g=>by rw[foldI,Ol p l];simp[aX,NB]
def WZ{α:Type}(p:α->Bool)(l:List α):aX (λx=> !p x) l= !(l.any p):=by unfold aX;rw[Vc];simp
def iQ(all:List Kp)(i:Nat):List (List X):=all.mapIdx λj k=>if j<i/\nW all j k=false then dc k else aE .own k
def HE(all:List Kp)(i:Nat):(iQ all i).length=all.length:=by simp[iQ]
def TW(all:List Kp)(i j:Nat)(h:i<=j)(hj:j<all.length):(iQ all i)[j]?=some (aE .own all[j]):=by unfold iQ;rw[Df,cm hj];simp only[cg];rw[aC (by omega)]
def agI(all:List Kp):iQ all 0=all.map (aE .own):=by
 apply hO;intro j;unfold iQ;rw[Df,cR];cases all[j]? with
 |none=>rfl
 |some k=>simp only[cg];rw[aC (by omega)]
def HD(all:List Kp)(i j:Nat):(iQ all i)[j]?=all[j]?.map λk=>if j<i/\nW all j k=false then dc k else aE .own k:=by unfold iQ;rw[Df]
def agH(all:List Kp)(i:Nat)(hi:i<all.length):iQ all (i+1)=if nW all i all[i]=true then iQ all i else (iQ all i).set i (dc all[i]):=by
 apply hO;intro j;rw[HD];by_cases e:j=i
 ·subst e;cases hb:nW all j all[j];·simp only[fA,dQ];rw[List.getElem?_set_self (by rw[HE];exact hi),cm hi];simp only[cg,hb,and_true];rw[au (by omega)]
  ·simp only[cY];rw[HD,cm hi];simp only[cg,hb,NM,and_false,dQ]
 ·have e2:j<i+1↔j<i:=⟨λh=>by omega,λh=>by omega⟩;simp only[e2];split;·rw[HD]
  ·rw[NU (by omega),HD]
def WC(d:aQ)(bs:List Bn)(sq:Int)(ai:List Kp)(nx:Int)(all:List Kp)(pJ:all.length<=15)(hall:∀k∈all,vT k)(i:Nat)(hi:i<all.length)(T:List (List X))(hT:∀j,i<=j->(h:j<all.length)->T[j]?=some (aE .own all[j]))(tZ:T.length=all.length):
  aI (aj (ev LI TT) (aq TT) uU) [(2,.ptr .own (aH .own ⟨⟨[],[]⟩,[],[],0,0⟩)),(5,.row .own 9 T),(12,.ptr .own (aH .own ⟨d,ai,bs,nx,sq⟩)),(13,.int .i64 i),(14,.bool true),(15,.int .i64 ((i+1:Nat):Int))]=
  some (.exit 4,[(2,.ptr .own (aH .own ⟨⟨[],[]⟩,[],[],0,0⟩)),(5,.row .own 9 T),(12,.ptr .own (aH .own ⟨d,ai,bs,nx,sq⟩)),(13,.int .i64 i),(14,.bool (!nW all i all[i])),(15,.int .i64 all.length),(83,.bool false)]):=by
 have:=gT (xt:=4) (f:=aj (ev LI TT) (aq TT) uU) (all.drop (i+1)) (λj (g:Bool)=>[(2,.ptr .own (aH .own ⟨⟨[],[]⟩,[],[],0,0⟩)),(5,.row .own 9 T),(12,.ptr .own (aH .own ⟨d,ai,bs,nx,sq⟩)),(13,.int .i64 i),(14,.bool g),(15,.int .i64 ((i+1+j:Nat):Int))]) (λ_ (g:Bool) x=>g && !(decide (x.seq=(all[i]).seq)||gZ x.obj (all[i]).obj))
  (λg=>[(2,.ptr .own (aH .own ⟨⟨[],[]⟩,[],[],0,0⟩)),(5,.row .own 9 T),(12,.ptr .own (aH .own ⟨d,ai,bs,nx,sq⟩)),(13,.int .i64 i),(14,.bool g),(15,.int .i64 all.length),(83,.bool false)])
  (λ_ _=>True) true trivial (λj b g hj hl _=>?_) (λ_ _ _ _ _=>trivial) (λg _=>?_)
 ·rw[Ol,WZ] at this;exact this
 ·rw[oS] at hj;obtain⟨hjl,rfl⟩:=aL.1 hj;obtain⟨n,hn⟩:∃n,i+1+j=n:=⟨_,rfl⟩;have hn2:i+1+(j+1)=n+1:=by omega
  simp only[hn] at hjl⊢;rw[hn2];obtain⟨q1,q2⟩:=aL.1 (hT n (by omega) hjl);obtain⟨q3,q4⟩:=aL.1 (hT i (by omega) hi);have hw:=aU n (by omega);have eN:(n:Int)<T.length:=by omega
  have u1:=O9 (all[n]).obj (all[i]).obj (by have:=uI (hall _ (cy hjl)).o;omega) (by have:=uI (hall _ (cy hi)).o;omega);clear hT hj hl;generalize gZ (all[n]).obj (all[i]).obj=tw at u1⊢;try simp at u1 q2 q4
  by_cases gq:(all[n]).seq=(all[i]).seq;·simp -implicitDefEqProofs [uU,BT,eN,hw,q1,q2,q3,q4,gq]
  ·cases tw;·simp -implicitDefEqProofs [uU,BT,eN,hw,q1,q2,q3,q4,gq,u1]
   ·simp -implicitDefEqProofs [uU,BT,eN,hw,q1,q2,q3,q4,gq,u1]
 ·have e:i+1+(all.drop (i+1)).length=all.length:=by rw[vP];omega
  rw[e];simp -implicitDefEqProofs [uU,BT,tZ]
end M
set_option maxHeartbeats 4000000
namespace M
open Go
def WG(d:aQ)(bs:List Bn)(sq:Int)(ai:List Kp)(nx:Int)(all:List Kp)(pJ:all.length<=15)(hall:∀k∈all,vT k)(i:Nat)(hi:i<all.length)(ho:ai.length<=1000):
  aj (ev LI TT) (aq TT) uV [(2,.ptr .own (aH .own ⟨⟨[],[]⟩,[],[],0,0⟩)),(5,.row .own 9 (iQ all i)),(12,.ptr .own (aH .own ⟨d,ai,bs,nx,sq⟩)),(13,.int .i64 i)]=
  some (.normal,[(2,.ptr .own (aH .own ⟨⟨[],[]⟩,[],[],0,0⟩)),(5,.row .own 9 (iQ all (i+1))),(12,.ptr .own (aH .own ⟨d,(mY all i (ai,nx) all[i]).1,bs,(mY all i (ai,nx) all[i]).2,sq⟩)),(13,.int .i64 ((i+1:Nat):Int))]):=by
 have hz:=CZ ho;have hw:=aU i (IC hi (by omega));have hk:=hall _ (cy hi);have u2:=O6 (all[i]).at_ hk.a;have u1:=WC d bs sq ai nx all pJ hall i hi (iQ all i) (λj h1 h2=>TW all i j h1 h2) (HE all i);have hg:=TW all i i (eC _) hi;have tZ:=HE all i;rw[agH all i hi];unfold mY;generalize iQ all i=T at u1 hg tZ⊢;obtain⟨q1,q2⟩:=aL.1 hg;have hm:=rZ T i _ hg;have rF:(i:Int)<T.length:=Db.2 q1;have Q0:(i:Int)<all.length:=Db.2 hi;clear hall hk hg;cases hlb:nW all i all[i]
 ·rw[hlb] at u1;try simp at u1 u2 q2 hm
  simp -implicitDefEqProofs [uV,Gh,hi,q1,rF,Q0,hw,u1,u2,q2,hm,sX,hz,bY,dc]
 ·rw[hlb] at u1;try simp at u1 u2 q2 hm
  simp -implicitDefEqProofs [uV,Gh,hi,q1,rF,Q0,hw,u1,u2,q2]
def WE(d:aQ)(bs:List Bn)(sq:Int)(all:List Kp)(pJ:all.length<=15)(hall:∀k∈all,vT k):
  aI (aj (ev LI TT) (aq TT) uV) [(2,.ptr .own (aH .own ⟨⟨[],[]⟩,[],[],0,0⟩)),(5,.row .own 9 (all.map (aE .own))),(12,.ptr .own (aH .own ⟨d,[],bs,5,sq⟩)),(13,.int .i64 0)]=
  some (.exit 2,[(2,.ptr .own (aH .own ⟨⟨[],[]⟩,[],[],0,0⟩)),(5,.row .own 9 (iQ all all.length)),(12,.ptr .own (aH .own ⟨d,(kD all).1,bs,(kD all).2,sq⟩)),(13,.int .i64 all.length),(75,.bool false)]):=by
 have:=gT (xt:=2) (f:=aj (ev LI TT) (aq TT) uV) all (λi (g:List Kp×Int)=>[(2,.ptr .own (aH .own ⟨⟨[],[]⟩,[],[],0,0⟩)),(5,.row .own 9 (iQ all i)),(12,.ptr .own (aH .own ⟨d,g.1,bs,g.2,sq⟩)),(13,.int .i64 i)]) (mY all)
  (λg=>[(2,.ptr .own (aH .own ⟨⟨[],[]⟩,[],[],0,0⟩)),(5,.row .own 9 (iQ all all.length)),(12,.ptr .own (aH .own ⟨d,g.1,bs,g.2,sq⟩)),(13,.int .i64 all.length),(75,.bool false)])
  (λi g=>g.1.length<=i/\i<=15) ([],5) (by simp) (λi b g hi hl hg=>?_) (λi b g hi hg=>?_) (λg hg=>?_)
 ·rw[RS,agI] at this;exact this
 ·obtain⟨_,rfl⟩:=aL.1 hi;obtain⟨ai,nx⟩:=g;exact WG d bs sq ai nx all pJ hall i hl (by have:=hg.1;simp only at this;omega)
 ·have hl:=(aL.1 hi).1;unfold mY;split;·omega
  ·simp;omega
 ·simp -implicitDefEqProofs [uV,Gh,HE]
def WD(d:aQ)(bs:List Bn)(m:Int)(hd:bJ d=true)(hwd:bh d<=16777216)(J6:wL aT bs<=1000)(hm:0<=m/\m<100000):
  aI (aj (ev LI TT) (aq TT) qv) [(1,.ptr .own (bU .af d)),(2,.ptr .own (aH .own ⟨⟨[],[]⟩,[],[],0,0⟩)),(3,.ref 22 [(0,0)]),(4,.int .i64 m),(5,.row .own 9 []),(6,.int .i64 5),(20,.ak [.ref 22 [(0,0)],.int .i64 m]),(22,.ak [.row .own 4 (bs.map ck),.int .i64 m])]=
  some (.exit 0,[(1,.ptr .own (bU .af d)),(2,.ptr .own (aH .own ⟨⟨[],[]⟩,[],[],0,0⟩)),(3,.ref 22 [(0,0)]),(4,.int .i64 (jd bs d m).2),(5,.row .own 9 ((gF Kp.seq (jd bs d m).1).map (aE .own))),(6,.int .i64 20),(20,.ak [.ref 22 [(0,0)],.int .i64 m]),(22,.ak [.row .own 4 (bs.map ck),.int .i64 m]),(27,.bool false)]):=by
 obtain⟨k0,k1,k2⟩:=fL hd
 have:=gT (xt:=0) (f:=aj (ev LI TT) (aq TT) qv) (List.range 15) (λi (g:List Kp×Int)=>[(1,.ptr .own (bU .af d)),(2,.ptr .own (aH .own ⟨⟨[],[]⟩,[],[],0,0⟩)),(3,.ref 22 [(0,0)]),(4,.int .i64 g.2),(5,.row .own 9 ((gF Kp.seq g.1).map (aE .own))),(6,.int .i64 ((5+i:Nat):Int)),(20,.ak [.ref 22 [(0,0)],.int .i64 m]),(22,.ak [.row .own 4 (bs.map ck),.int .i64 m])]) (kE bs d)
  (λg=>[(1,.ptr .own (bU .af d)),(2,.ptr .own (aH .own ⟨⟨[],[]⟩,[],[],0,0⟩)),(3,.ref 22 [(0,0)]),(4,.int .i64 g.2),(5,.row .own 9 ((gF Kp.seq g.1).map (aE .own))),(6,.int .i64 20),(20,.ak [.ref 22 [(0,0)],.int .i64 m]),(22,.ak [.row .own 4 (bs.map ck),.int .i64 m]),(27,.bool false)])
  (λi g=>i<=15/\tB i g) ([],m) ⟨by omega,⟨by simp,by simp,hm,by simp,by simp,by simp⟩⟩ (λi b g hi hl hg=>?_) (λi b g hi hg=>?_) (λg hg=>?_)
 ·refine yZ ?_ this;simp[gF]
 ·have ud:i<15:=by simpa using hl
  obtain⟨at_,ij⟩:∃a,((5+i:Nat):Int)=a:=⟨_,rfl⟩;have eN:at_<20:=by omega
  have hw:IntKind.i64.wrap (at_+1)=at_+1:=bX (by omega) (by omega);have EC:((5+(i+1):Nat):Int)=at_+1:=by omega
  have u1:=OU d at_ (by omega);have hin:bJ d=true/\(0:Int)<=at_/\at_<=19:=⟨hd,by omega,by omega⟩;rw[au hin] at u1;have Ki:=En d at_;have u2:=O1 (cC d at_) (by omega);have hrl:=FT (cC d at_);have mP:=FU (cC d at_);have u3:=X7 (cx (cC d at_)).2.1 (by omega);have how:=SC (cx (cC d at_)).2.1;have lS:=hg.2.n;have EL:(gF Kp.seq g.1).length<=15:=by rw[(Hx Kp.seq g.1).length_eq];omega
  unfold kE;rw[ij,EC];clear ij EC;generalize cx (cC d at_)=rr at u2 u3 hrl mP how⊢;obtain⟨n,bd,ok⟩:=rr;simp only at u2 u3 hrl mP how⊢;generalize gU bd=br at u3 how⊢;obtain⟨⟨op,on,ov,⟨rs,rf,rb⟩,ot⟩,tI⟩:=br;simp only at how;have u5:=Jb bs ⟨op,on,ov,⟨rs,rf,rb⟩,ot⟩ (by omega) (by omega);have u6:=Ye (gF Kp.seq g.1) ⟨⟨op,on,ov,⟨rs,rf,rb⟩,ot⟩,at_,n⟩ EL;rw[<-agq] at u6;have Am:max g.2 n=if n<g.2 then g.2 else n:=by split<;>omega
  simp only at u5⊢;generalize fI bs ⟨op,on,ov,⟨rs,rf,rb⟩,ot⟩=hb at u5⊢;obtain⟨g1,g2⟩:=g;simp only at u6 Am⊢;simp at u1 u2 u3 u5 u6;cases ok;·simp -implicitDefEqProofs [qv,uT,eN,hw,u1,u2,u3]
  cases tI;·simp -implicitDefEqProofs [qv,uT,eN,hw,u1,u2,u3]
  by_cases gq:n<100000;rotate_left
  ·have pz:100000<=n:=by omega
   simp -implicitDefEqProofs [qv,uT,eN,hw,u1,u2,u3,gq,pz]
  have pz:¬100000<=n:=by omega
  cases hb;·simp -implicitDefEqProofs [qv,uT,eN,hw,u1,u2,u3,u5,u6,gq,pz,Am]
  ·simp -implicitDefEqProofs [qv,uT,eN,hw,u1,u2,u3,u5,gq,pz,Am]
 ·have ud:i<15:=by have:=(aL.1 hi).1;simpa using this
  exact⟨by omega,Le bs d ud b hg.2⟩
 ·simp -implicitDefEqProofs [qv,uT]
def OZ(d:aQ)(hwd:bh d<=16777216):ev LI TT 42 [.agg (bU .af d)]=some (.agg (aH .own (dh d)),[.dead]):=by
 rw[ay (b:=BU) (rs:=[.c 2 6 true 54]) (n:=1) rfl rfl];have EM:bh d=wL wS d.cells+wL cS d.pending:=rfl;have l1:=bE (w:=wS) d.cells;have l2:=bE (w:=cS) d.pending;unfold dh;have u1:=tJ d (by omega);try simp at u1
 have u2:=DF d (by omega) (by omega);try simp at u2
 by_cases g:bJ d=true;rotate_left;·have u3:=O3;rw[show bJ d=false by simpa using g] at u1⊢;simp at u1 u3;simp -implicitDefEqProofs [BU,u1,u3]
 have B:=Bo d;have u3:=Yd d g hwd;have u4:=WD d (dw d).1 (dw d).2 g hwd (Lb d) B.2.2;have u5:=WE d (dw d).1 ((fF d).2+1) (eO d) (K9 d) (λk hk=>(Bm hk).1);have O:=(xl d).m;have hw:IntKind.i64.wrap ((fF d).2+1)=(fF d).2+1:=bX (by omega) (by omega);rw[show jd (dw d).1 d (dw d).2=fF d from rfl,show gF Kp.seq (fF d).1=eO d from rfl] at u4;have e:dY d=⟨d,(kD (eO d)).1,(dw d).1,(kD (eO d)).2,(fF d).2+1⟩:=rfl;rw[g] at u1;rw[g,au rfl,e];clear e B O;generalize kD (eO d)=lk at u5⊢;generalize eO d=all at u4 u5;generalize fF d=od at u4 u5 hw⊢;generalize dw d=mb at u3 u4 u5⊢;obtain⟨ai,nx⟩:=lk;obtain⟨od1,od2⟩:=od;obtain⟨bs,ms⟩:=mb;simp at u1 u2 u3 u4 u5;simp -implicitDefEqProofs [BU,u1,u2,u3,u4,u5,hw];all_goals (repeat' split)<;>first|rfl|omega|(simp_all;done)|(simp_all;omega)|skip
end M
set_option maxHeartbeats 4000000
namespace M
open Go
def Sj(d:aQ):bN (dY d)<=bh d+25000:=by have h1:=Lb d;have h2:wL bK (iJ (eO d))<=15*(1300+1):=oJ (λk hk=>uI (Bm ((uB _).subset hk)).1.o) (jo (uB _).length_le (K9 d));show bh d+wL bK (iJ (eO d))+wL aT (dw d).1<=_;omega
def Si(d:aQ):bN (dh d)<=bh d+25000:=by
 unfold dh;split;·exact Sj d
 ·have:bN eR=20:=by decide
  omega
end M
namespace M
open Go
end M
set_option maxHeartbeats 4000000
namespace M
open Go
end M
set_option maxHeartbeats 4000000
namespace M
open Go
end M
set_option maxHeartbeats 4000000
namespace M
open Go
end M
set_option maxHeartbeats 4000000
namespace M
open Go
def o8(d:aQ)(keep:List Bool):aQ:=⟨mV (gR keep false) d.cells d.pending,[]⟩
def YL{d:aQ}(keep:List Bool)(h:bJ d=true):bJ (o8 d keep)=true:=by obtain⟨h0,h1,h1'⟩:=fL h;have:=RR (gR keep false) d.cells d.pending;unfold bJ o8;simp only[this,h1];rfl
def XA(d:aQ)(h:bJ d=true):ev LI TT 45 [.agg (bU .af d)]=some (.agg (bU .own (bQ d)),[.dead]):=by
 rw[ay (b:=EV) (rs:=[.c 2 2 true 50]) (n:=1) rfl rfl];obtain⟨h0,h1,h1'⟩:=fL h;have hw:d.cells.length<=1073741824:=by omega
 have u1:=I5 d (by omega);try simp at u1
 have u2:=OQ d (by omega) (by omega);try simp at u2
 have u3:=Xx d h;try simp at u3
 rw[h] at u1;simp -implicitDefEqProofs [EV,u1,u2,u3];all_goals (repeat' split)<;>first|rfl|omega|(simp_all;done)|(simp_all;omega)|skip
def X1(d:aQ)(keep:List Bool)(h:bJ d=true)(hk:keep.length<=9223372036854775807):ev LI TT 193 [.agg (bU .af d),.row .af 1 (keep.map eB)]=some (.agg (bU .own (o8 d keep)),[.dead,.dead]):=by
 rw[ay (b:=F5) (rs:=[.c 4 2 true 50]) (n:=2) rfl rfl];obtain⟨h0,h1,h1'⟩:=fL h;unfold o8;have u1:=tJ d (by omega);try simp at u1
 have u2:=O5 d keep false h hk;try simp at u2
 rw[h] at u1;simp -implicitDefEqProofs [F5,u1,u2];all_goals (repeat' split)<;>first|rfl|omega|(simp_all;done)|(simp_all;omega)|skip
def YM(d:aQ)(keep:List Bool):bh (o8 d keep)<=bh d:=by have h:=JQ (gR keep false) d.pending 0 d.cells;show wL wS (mV (gR keep false) d.cells d.pending)+wL cS []<=wL wS d.cells+wL cS d.pending;have e:wL cS []=0:=rfl;unfold mV;omega
end M
set_option maxHeartbeats 4000000
namespace M
open Go
end M
set_option maxHeartbeats 4000000
namespace M
open Go
end M
set_option maxHeartbeats 4000000
namespace M
open Go
end M
set_option maxHeartbeats 4000000
namespace M
open Go
def Wk(s:Sh)(hb:bN s<=1073741824):aI (aj (ev LI TT) (aq TT) Cl) [(1,.ptr .own (aH .af s)),(2,.ptr .own [.row .own 1 [],.row .own 2 [],.row .own 9 [],.row .own 4 [],.int .i64 0,.int .i64 0]),(3,.ptr .own [.row .own 1 (s.aG.cells.map eS),.row .own 2 (s.aG.pending.map eW),.row .own 9 (([]).map (aE .own)),.row .own 4 (s.aD.map ck),.int .i64 s.next,.int .i64 s.seq]),(4,.int .i64 0)]=some (.exit 0,[(1,.ptr .own (aH .af s)),(2,.ptr .own [.row .own 1 [],.row .own 2 [],.row .own 9 [],.row .own 4 [],.int .i64 0,.int .i64 0]),(3,.ptr .own [.row .own 1 (s.aG.cells.map eS),.row .own 2 (s.aG.pending.map eW),.row .own 9 ((((s.ai).flatMap (λk=>[k]))).map (aE .own)),.row .own 4 (s.aD.map ck),.int .i64 s.next,.int .i64 s.seq]),(4,.int .i64 (s.ai).length),(21,.bool false)]):=by
 refine pW (f:=aj (ev LI TT) (aq TT) Cl) (s.ai) (λk=>[k]) (λi out=>[(1,.ptr .own (aH .af s)),(2,.ptr .own [.row .own 1 [],.row .own 2 [],.row .own 9 [],.row .own 4 [],.int .i64 0,.int .i64 0]),(3,.ptr .own [.row .own 1 (s.aG.cells.map eS),.row .own 2 (s.aG.pending.map eW),.row .own 9 ((out).map (aE .own)),.row .own 4 (s.aD.map ck),.int .i64 s.next,.int .i64 s.seq]),(4,.int .i64 i)]) (λout=>[(1,.ptr .own (aH .af s)),(2,.ptr .own [.row .own 1 [],.row .own 2 [],.row .own 9 [],.row .own 4 [],.int .i64 0,.int .i64 0]),(3,.ptr .own [.row .own 1 (s.aG.cells.map eS),.row .own 2 (s.aG.pending.map eW),.row .own 9 ((out).map (aE .own)),.row .own 4 (s.aD.map ck),.int .i64 s.next,.int .i64 s.seq]),(4,.int .i64 (s.ai).length),(21,.bool false)]) (λi b out hi hl hout=>?_) (λout hout=>?_)
 ·have hw:=aU i (by have de:bN s=bh s.aG+wL bK s.ai+wL aT s.aD:=rfl;have:=bE (w:=bK) s.ai;omega);obtain⟨_,rfl⟩:=aL.1 hi;have de:bN s=bh s.aG+wL bK s.ai+wL aT s.aD:=rfl;have hlk:=bE (w:=bK) s.ai;have hm:=yP (cy hl);have hlo:out.length=i:=by rw[hout];exact zX (λk=>k) _ _ (by omega)
  have hlz:(i+1)*136<=140737488355328:=by omega
  have u1:=DC (s.ai[i]).obj (by omega);try simp at u1
  simp -implicitDefEqProofs [Cl,Mo,hl,hw,u1,hlo,hlz,bY]
 ·simp -implicitDefEqProofs [Cl,Mo]
def agc(l:List Bn):fO (l.map ck)=true:=by induction l<;>simp_all[fO,scalar]
def O7(s:Sh)(hb:bN s<=1073741824):ev LI TT 144 [.agg (aH .af s)]=some (.agg (aH .own s),[.dead]):=by
 rw[ay (b:=GG) (rs:=[.c 2 6 true 54]) (n:=1) rfl rfl];have de:bN s=bh s.aG+wL bK s.ai+wL aT s.aD:=rfl;have EM:bh s.aG=wL wS s.aG.cells+wL cS s.aG.pending:=rfl;have l1:=bE (w:=wS) s.aG.cells;have l2:=bE (w:=cS) s.aG.pending;have l3:=bE (w:=aT) s.aD;have u1:=DF s.aG (by omega) (by omega);try simp at u1
 have u2:=Wk s hb;try simp at u2
 simp -implicitDefEqProofs [GG,u1,u2,agc,rowAt,(by omega:s.aD.length*48<=140737488355328),Mp,Cm,GM,Mz,yl,Cp,MB,Cq,GR,Cr,GH,GI,Mq,Cn,GJ,GK,Mr,GL,Ms,Mt,Co,GN,GO,Mu,GP,Mv,Mw,GQ,Mx,My,MA];all_goals (repeat' split)<;>first|rfl|omega|(simp_all;done)|(simp_all;omega)|skip
end M
set_option maxHeartbeats 4000000
namespace M
open Go
structure Pl (A:List X):Prop where
 o:∀ks,X.nj ks A=A
 k:∀r p,X.gA r p A=A
 m:X.dS .af A=A
 b:X.bare.iX A=true
end M
set_option maxHeartbeats 400000
namespace M
open Go
def tT{α β:Type}(p:α->Bool)(d:α->β)(g:List α×List β)(v:α):List α×List β:=if p v=true then (g.1,g.2++[d v]) else (g.1++[v],g.2.tail++[d v])
structure DX {α β:Type} (e d:α->β) (n:Nat) (g:List α×List β):Prop where
 n:g.1.length+g.2.length=n
 m:1<=g.2.length
 r:∀x∈g.2,∃u,x=e u\/x=d u
def DX.go{α β:Type}{e d:α->β}{n:Nat}{g:List α×List β}(h:DX e d n g)(p:α->Bool)(v:α):DX e d (n+1) (tT p d g v):=by
 obtain⟨F,M⟩:=g;have hn:=h.n;have hm:=h.m;have hr:=h.r;simp at hn hm hr;unfold tT;split
 ·refine⟨by simp;omega,by simp,λx hx=>?_⟩;rcases dO.1 hx with hx|hx;·exact hr x hx
  ·exact⟨v,.inr (by simpa using hx)⟩
 ·refine⟨by simp;omega,by simp,λx hx=>?_⟩;rcases dO.1 hx with hx|hx;·exact hr x (U0 hx)
  ·exact⟨v,.inr (by simpa using hx)⟩
def DX.row{α β:Type}{e d:α->β}{n:Nat}{g:List α×List β}(h:DX e d n g)(p:α->Bool)(v:α)(R T:List β)(hT:T=g.1.map e++g.2++e v::R):T.length=n+1+R.length/\T[n]?=some (e v)/\g.1.length<n/\(∃u,T[g.1.length]?=some (e u)\/T[g.1.length]?=some (d u))/\(if p v=true then T.set n (d v) else (T.set n (d v)).set g.1.length (e v))=(tT p d g v).1.map e++(tT p d g v).2++R/\(if p v=true then g.1.length else g.1.length+1)=(tT p d g v).1.length:=by
 obtain⟨F,M⟩:=g;have hn:=h.n;have hm:=h.m;have hr:=h.r;simp at hn hm hr hT⊢;subst hT;obtain⟨a,M',rfl⟩:∃a M',M=a::M':=by cases M with|nil=>simp at hm|cons a M=>exact⟨_,_,rfl⟩
 have e1:n=(F.map e).length+(a::M').length:=by simp;simp at hn;omega
 have e2:F.length=(F.map e).length:=by simp
 obtain⟨u,hu⟩:=hr a (by simp);refine⟨by simp at hn⊢;omega,?_,by simp at hn;omega,⟨u,?_⟩,?_,?_⟩;·rw[e1,<-e9,<-lH];simp
 ·rw[e2];rcases hu with rfl|rfl<;>simp
 ·have s1:∀w,(F.map e++(a::M'++e v::R)).set n w=F.map e++(a::M'++w::R):=by intro w;rw[e1];simp[List.set_append,oP,Nat.add_sub_cancel]
  rw[s1];unfold tT;cases hp:p v;·simp only[hp,fA,dQ];rw[e2,C5 _ _ (eC _)];simp
  ·simp
 ·unfold tT;cases hp:p v<;>simp
end M
set_option maxHeartbeats 4000000
namespace M
open Go
def SE(o:Ob)(hb:b8 o<=1073741824):(dA o).length<=9223372036854775807:=by
 by_cases hok:dx o=true
 ·have hw:b8 o=o.path.length+wL wS o.names+wL wS o.values+bZ o.resp:=rfl;have hrl:=LO o.resp;have hvl:=M6 o.values;have A:=xD hok;have a2:=A.n4;have a1:=A.len;have a3:=n9 o.t;have a4:=nJ o.values.length (by omega);have et:dA o=lY++32::(o.path++32::(cV o.t++32::(aS o.values.length++10::(iz o.values++fo o.resp)))):=by unfold dA k9 p6 fo;rw[au hok,au A.resp];simp
  rw[et];simp[Bi];omega
 ·rw[(Lo o).2 hok];simp
def pg(s:Sh)(o:Ob):List Kp:=s.ai.filter λk=> !(decide (k.at_=s.next)||gZ k.obj o)
def Bb(s:Sh)(o:Ob):Bool:=dx o && !fI s.aD o && !decide (s.seq=100000) && !decide (di s.seq (dA o)=[])
def xd(s:Sh)(o:Ob):Sh:=⟨lp s.aG s.next (di s.seq (dA o)),pg s o++[⟨o,s.next,s.seq⟩],s.aD,nZ s.next,s.seq+1⟩
def uz(s:Sh)(o:Ob):Sh:=if Bb s o=true then xd s o else s
end M
set_option maxHeartbeats 4000000
namespace M
open Go
def Ql{β:Type}(p:β->Bool)(l:List β):l.flatMap (λk=>if p k=true then [k] else [])=l.filter p:=by
 induction l with
 |nil=>rfl
 |cons a l ih=>cases h:p a<;>simp[h,ih]
def Hq:Sh:=⟨⟨[],[]⟩,[],[],0,0⟩
def VY(s:Sh)(o:Ob)(hb:bN s<=1073741824)(ho:b8 o<=1073741824)(t:ag):aI (aj (ev LI TT) (aq TT) xQ) [(2,.ptr .own (aH .af s)),(3,.ptr .own (bw .af o)),(4,.ptr .own [.row .own 1 [],.row .own 2 [],.row .own 9 [],.row .own 4 [],.int .i64 0,.int .i64 0]),(6,.str ⟨t.toArray⟩),(7,.ptr .own [.row .own 1 (s.aG.cells.map eS),.row .own 2 (s.aG.pending.map eW),.row .own 9 (([]).map (aE .own)),.row .own 4 (s.aD.map ck),.int .i64 s.next,.int .i64 s.seq]),(8,.int .i64 0)]=some (.exit 0,[(2,.ptr .own (aH .af s)),(3,.ptr .own (bw .af o)),(4,.ptr .own [.row .own 1 [],.row .own 2 [],.row .own 9 [],.row .own 4 [],.int .i64 0,.int .i64 0]),(6,.str ⟨t.toArray⟩),(7,.ptr .own [.row .own 1 (s.aG.cells.map eS),.row .own 2 (s.aG.pending.map eW),.row .own 9 ((((s.ai).flatMap (λk=>if (!(decide (k.at_=s.next)||gZ k.obj o))=true then [k] else []))).map (aE .own)),.row .own 4 (s.aD.map ck),.int .i64 s.next,.int .i64 s.seq]),(8,.int .i64 (s.ai).length),(45,.bool false)]):=by
 refine pW (f:=aj (ev LI TT) (aq TT) xQ) (s.ai) (λk=>if (!(decide (k.at_=s.next)||gZ k.obj o))=true then [k] else []) (λi out=>[(2,.ptr .own (aH .af s)),(3,.ptr .own (bw .af o)),(4,.ptr .own [.row .own 1 [],.row .own 2 [],.row .own 9 [],.row .own 4 [],.int .i64 0,.int .i64 0]),(6,.str ⟨t.toArray⟩),(7,.ptr .own [.row .own 1 (s.aG.cells.map eS),.row .own 2 (s.aG.pending.map eW),.row .own 9 ((out).map (aE .own)),.row .own 4 (s.aD.map ck),.int .i64 s.next,.int .i64 s.seq]),(8,.int .i64 i)]) (λout=>[(2,.ptr .own (aH .af s)),(3,.ptr .own (bw .af o)),(4,.ptr .own [.row .own 1 [],.row .own 2 [],.row .own 9 [],.row .own 4 [],.int .i64 0,.int .i64 0]),(6,.str ⟨t.toArray⟩),(7,.ptr .own [.row .own 1 (s.aG.cells.map eS),.row .own 2 (s.aG.pending.map eW),.row .own 9 ((out).map (aE .own)),.row .own 4 (s.aD.map ck),.int .i64 s.next,.int .i64 s.seq]),(8,.int .i64 (s.ai).length),(45,.bool false)]) (λi b out hi hl hout=>?_) (λout hout=>?_)
 ·have hw:=aU i (by have de:bN s=bh s.aG+wL bK s.ai+wL aT s.aD:=rfl;have:=bE (w:=bK) s.ai;omega);obtain⟨_,rfl⟩:=aL.1 hi;have de:bN s=bh s.aG+wL bK s.ai+wL aT s.aD:=rfl;have hlk:=bE (w:=bK) s.ai;have hm:=yP (cy hl);have hlo:out.length<=i:=by rw[hout];exact Eg _ (λb=>by split<;>simp) _ _
  have hlz:(out.length+1)*136<=140737488355328:=by omega
  have u1:=DC (s.ai[i]).obj (by omega);try simp at u1
  have u2:=O9 (s.ai[i]).obj o (by omega) ho;try simp at u2
  by_cases g:(s.ai[i]).at_=s.next
  ·simp -implicitDefEqProofs [xQ,Gf,g,hl,hw]
  cases g2:gZ (s.ai[i]).obj o;all_goals
  simp -implicitDefEqProofs [xQ,Gf,hl,hw,u1,u2,hlz,bY,g,g2]
 ·simp -implicitDefEqProofs [xQ,Gf]
def X4(s:Sh)(o:Ob)(hb:bN s<=1073741824)(ho:b8 o<=1073741824):ev LI TT 48 [.agg (aH .af s),.agg (bw .af o)]=some (.ak [.agg (aH .own (if dB s=true then uz s o else Hq)),.bool ((dB s && Bb s o))],[.dead,.dead]):=by
 rw[ay (b:=qu) (rs:=[.c 4 6 true 54,.t 5]) (n:=2) rfl rfl];have u1:=Je s hb;try simp at u1
 have u2:=O7 s hb;try simp at u2
 cases g:dB s;·simp -implicitDefEqProofs [qu,u1,g,Hq]
 rw[g] at u1;have A:=mw g;have hn:=A.n;have hq:=A.q;have de:bN s=bh s.aG+wL bK s.ai+wL aT s.aD:=rfl;have l1:=bE (w:=bK) s.ai;have l2:=Vk (λk=> !(decide (k.at_=s.next)||gZ k.obj o)) s.ai;have v1:=Jc o ho;have v2:=zE s.seq (dA o) (SE o ho);have v3:=zC o ho;have v4:=Jb s.aD o (by omega) ho;try simp at v1 v2 v3 v4
 have hlz:((pg s o).length+1)*136<=140737488355328:=by unfold pg;omega
 have hw:=bX (n:=s.seq+1) (by omega) (by omega);unfold uz Bb;cases g1:dx o;·simp -implicitDefEqProofs [qu,u1,u2,v1,v2,v3,v4,g,g1]
 cases g2:fI s.aD o;rotate_left;·simp -implicitDefEqProofs [qu,u1,u2,v1,v2,v3,v4,g,g1,g2]
 by_cases g3:s.seq=100000;·rw[g3] at v2 u1 u2;simp -implicitDefEqProofs [qu,u1,u2,v1,v2,v3,v4,g,g1,g2,g3]
 by_cases g4:di s.seq (dA o)=[];·rw[g4] at v2;simp -implicitDefEqProofs [qu,u1,u2,v1,v2,v3,v4,g,g1,g2,g3,g4]
 have v5:=VY s o hb ho (di s.seq (dA o));rw[Ql,show s.ai.filter (λk=> !(decide (k.at_=s.next)||gZ k.obj o))=pg s o from rfl] at v5;have v6:=O8 ⟨s.aG,pg s o,s.aD,s.next,s.seq⟩ s.next (di s.seq (dA o)) A.d (by omega)
 have v7:=DC o ho;have v8:=O6 s.next hn
 unfold FO at v6;try simp at v5 v6 v7 v8
 unfold xd;simp -implicitDefEqProofs [qu,u1,u2,v1,v2,v3,v4,v5,v6,v7,v8,g,g1,g2,g3,g4,hw,hlz,bY];all_goals (repeat' split)<;>first|rfl|omega|(simp_all;done)|(simp_all;omega)|skip
end M
set_option maxHeartbeats 4000000
namespace M
open Go
def FW(n:Int)(b:ag):(di n b).length<=2040:=by
 unfold di;split;·rename_i h;unfold FX;have l1:=nJ n.toNat (by omega);have l2:=nJ b.length (by omega);have l3:=o9 17 (mA (aS n.toNat++32::(aS b.length++10::b))) (NC (CJ _) (by decide));simp;omega
 ·simp
def adB(s:Sh)(o:Ob):bN (uz s o)<=bN s+b8 o+2100:=by
 unfold uz;split
 ·have h1:=SZ s.aG s.next (di s.seq (dA o))
  have h2:=FW s.seq (dA o);have h3:wL bK (pg s o)<=wL bK s.ai:=Uu bK _ _;have h4:wL bK [⟨o,s.next,s.seq⟩]=b8 o+1:=by simp[wL,bK];omega
  show bh (lp s.aG s.next (di s.seq (dA o)))+wL bK (pg s o++[⟨o,s.next,s.seq⟩])+wL aT s.aD<=bh s.aG+wL bK s.ai+wL aT s.aD+b8 o+2100;rw[HR];omega
 ·omega
end M
set_option maxHeartbeats 4000000
namespace M
open Go
def WY{α:Type}(p:α->Bool)(a b:List α):aX p (a++b)=(aX p a && aX p b):=by
 induction a with
 |nil=>simp[aX]
 |cons x a ih=>simp[aX,ih,NB]
def Lw{d:aQ}{a:Int}(t:ag)(h:bJ d=true)(ha:0<=a/\a<=19):bJ (lp d a t)=true:=by
 obtain⟨h0,h1,h2⟩:=fL h;have hf:=tW h;unfold lp;split;·obtain⟨g0,g1,g2⟩:=fL hf;unfold bJ;simp[g1,aX,ni,ha]
 ·rename_i hp;unfold bJ at h⊢;simp only[az,aY,e9,cu,iC,WY] at h⊢;simp[aX,ni,ha] at h⊢;exact⟨h.1,by omega⟩
def zu(s:Sh)(b:Bn):Bool:=dF b && !decide (5<=(s.aD.length:Int)) && !decide (s.seq=100000)
def IY(s:Sh)(b:Bn):aQ:=bQ (lp s.aG s.aD.length (di s.seq (dZ b)))
def DW(s:Sh)(b:Bn):List Kp:=s.ai.filter λk=> !fI (s.aD++[b]) k.obj
def zv(s:Sh)(b:Bn):Sh:=⟨IY s b,DW s b,s.aD++[b],s.next,s.seq+1⟩
def tF(s:Sh)(b:Bn):Sh:=if zu s b=true then zv s b else s
def Xi(s:Sh)(b:Bn):bN (tF s b)<=bN s+aT b+2100:=by
 unfold tF;split
 ·have h1:=SZ s.aG s.aD.length (di s.seq (dZ b));have h2:=FW s.seq (dZ b);have h5:=wE (lp s.aG s.aD.length (di s.seq (dZ b)));have h3:wL bK (DW s b)<=wL bK s.ai:=Uu bK _ _;have h4:wL aT [b]=aT b+1:=by simp[wL];omega
  show bh (bQ (lp s.aG s.aD.length (di s.seq (dZ b))))+wL bK (DW s b)+wL aT (s.aD++[b])<=bh s.aG+wL bK s.ai+wL aT s.aD+aT b+2100;rw[HR];omega
 ·omega
def Xl(b:Bn)(hb:aT b<=1073741824):(dZ b).length<=9223372036854775807:=by
 have h1:=n9 b.t;have h2:aT b=b.a.length+b.b.length:=rfl;have h3:(kJ b.kind).length<=10:=by unfold kJ;split<;>(try split)<;>decide
 unfold dZ;split;·split<;>simp<;>omega
 ·simp
end M
set_option maxHeartbeats 4000000
namespace M
open Go
def VQ(s:Sh)(D:aQ)(B:List Bn)(sq:Int)(hb:bN s<=1000000000)(hB:wL aT B<=1073741824):aI (aj (ev LI TT) (aq TT) BM) [(2,.ptr .own (aH .af s)),(4,.ptr .own [.row .own 1 [],.row .own 2 [],.row .own 9 [],.row .own 4 [],.int .i64 0,.int .i64 0]),(6,.ptr .own [.row .own 1 (D.cells.map eS),.row .own 2 (D.pending.map eW),.row .own 9 (([]).map (aE .own)),.row .own 4 (B.map ck),.int .i64 s.next,.int .i64 sq]),(7,.int .i64 0)]=some (.exit 0,[(2,.ptr .own (aH .af s)),(4,.ptr .own [.row .own 1 [],.row .own 2 [],.row .own 9 [],.row .own 4 [],.int .i64 0,.int .i64 0]),(6,.ptr .own [.row .own 1 (D.cells.map eS),.row .own 2 (D.pending.map eW),.row .own 9 ((((s.ai).flatMap (λk=>if (!fI B k.obj)=true then [k] else []))).map (aE .own)),.row .own 4 (B.map ck),.int .i64 s.next,.int .i64 sq]),(7,.int .i64 (s.ai).length),(58,.bool false)]):=by
 refine pW (f:=aj (ev LI TT) (aq TT) BM) (s.ai) (λk=>if (!fI B k.obj)=true then [k] else []) (λi out=>[(2,.ptr .own (aH .af s)),(4,.ptr .own [.row .own 1 [],.row .own 2 [],.row .own 9 [],.row .own 4 [],.int .i64 0,.int .i64 0]),(6,.ptr .own [.row .own 1 (D.cells.map eS),.row .own 2 (D.pending.map eW),.row .own 9 ((out).map (aE .own)),.row .own 4 (B.map ck),.int .i64 s.next,.int .i64 sq]),(7,.int .i64 i)]) (λout=>[(2,.ptr .own (aH .af s)),(4,.ptr .own [.row .own 1 [],.row .own 2 [],.row .own 9 [],.row .own 4 [],.int .i64 0,.int .i64 0]),(6,.ptr .own [.row .own 1 (D.cells.map eS),.row .own 2 (D.pending.map eW),.row .own 9 ((out).map (aE .own)),.row .own 4 (B.map ck),.int .i64 s.next,.int .i64 sq]),(7,.int .i64 (s.ai).length),(58,.bool false)]) (λi b out hi hl hout=>?_) (λout hout=>?_)
 ·have hw:=aU i (by have de:bN s=bh s.aG+wL bK s.ai+wL aT s.aD:=rfl;have:=bE (w:=bK) s.ai;omega);obtain⟨_,rfl⟩:=aL.1 hi;have de:bN s=bh s.aG+wL bK s.ai+wL aT s.aD:=rfl;have hlk:=bE (w:=bK) s.ai;have hm:=yP (cy hl);have hlo:out.length<=i:=by rw[hout];exact Eg _ (λb=>by split<;>simp) _ _
  have hlz:(out.length+1)*136<=140737488355328:=by omega
  have u1:=DC (s.ai[i]).obj (by omega);try simp at u1
  have u2:=Jb B (s.ai[i]).obj hB (by omega);try simp at u2
  cases g2:fI B (s.ai[i]).obj;all_goals
  simp -implicitDefEqProofs [BM,LV,hl,hw,u1,u2,hlz,bY,g2]
 ·simp -implicitDefEqProofs [BM,LV]
def XZ(s:Sh)(b:Bn)(hb:bN s<=1000000000)(ho:aT b<=10000000):ev LI TT 51 [.agg (aH .af s),.agg (ck b)]=some (.ak [.agg (aH .own (if dB s=true then tF s b else Hq)),.bool ((dB s && zu s b))],[.dead,.dead]):=by
 rw[ay (b:=si) (rs:=[.c 4 6 true 54,.t 5]) (n:=2) rfl rfl];have u1:=Je s (by omega);try simp at u1
 have u2:=O7 s (by omega);try simp at u2
 cases g:dB s;·simp -implicitDefEqProofs [si,u1,g,Hq]
 rw[g] at u1;have A:=mw g;have hn:=A.n;have hq:=A.q;have Q5:=A.b;have de:bN s=bh s.aG+wL bK s.ai+wL aT s.aD:=rfl;have l1:=bE (w:=bK) s.ai;have v1:=Dz b (by omega);try simp at v1
 have hlz:(s.aD.length+1)*48<=140737488355328:=by omega
 have hw:=bX (n:=s.seq+1) (by omega) (by omega);unfold tF zu;cases g1:dF b;·simp -implicitDefEqProofs [si,u1,u2,v1,g,g1]
 by_cases g2:5<=(s.aD.length:Int)
 ·have jP:(s.aD.length:Int)=5:=by omega
  simp -implicitDefEqProofs [si,u1,u2,v1,g,g1,jP]
 have jP:¬(s.aD.length:Int)=5:=by omega
 by_cases g3:s.seq=100000;·rw[g3] at u1 u2;simp -implicitDefEqProofs [si,u1,u2,v1,g,g1,g2,jP,g3]
 have v2:=I9 b (by omega);have v3:=zE s.seq (dZ b) (Xl b (by omega));have v4:=O8 s s.aD.length (di s.seq (dZ b)) A.d (by omega);have v5:=zA (lp s.aG s.aD.length (di s.seq (dZ b))) (Lw _ A.d (by omega));have hwb:wL aT (s.aD++[b])<=1073741824:=by rw[HR];have:wL aT [b]=aT b+1:=(by simp[wL];omega);have e2:aT b<=10000000:=ho;omega
 have v6:=VQ s (IY s b) (s.aD++[b]) (s.seq+1) hb hwb;unfold FO at v4;rw[Ql,show s.ai.filter (λk=> !fI (s.aD++[b]) k.obj)=DW s b from rfl] at v6;rw[show bQ (lp s.aG s.aD.length (di s.seq (dZ b)))=IY s b from rfl] at v5;try simp at v2 v3 v4 v5 v6
 unfold zv;simp -implicitDefEqProofs [si,u1,u2,v1,v2,v3,v4,v5,v6,g,g1,g2,jP,g3,hw,hlz,bY,LW,LX,LY,LZ];all_goals (repeat' split)<;>first|rfl|omega|(simp_all;done)|(simp_all;omega)|skip
end M
set_option maxHeartbeats 4000000
namespace M
open Go
def xm(q:Rq)(r:bP):Bool:=xK q && fm r && decide (q.method=1) && decide (r.status=200) && !(o6 q.fields).ns && !(o6 r.fields).ns && !(o6 r.fields).pr && (o6 r.fields).ha && ng (dn r.fields)
def r7(q:Rq)(r:bP)(t:Int):Ob:=⟨q.path,dn r.fields,valuesOf (dn r.fields) q.fields,r,t⟩
def uH(q:Rq)(r:bP)(t:Int):Bool:=xm q r && dx (r7 q r t)
def r8(q:Rq)(r:bP)(t:Int):Ob:=if uH q r t=true then r7 q r t else Np
def shC(c:Ca)(s:Sh):Ca:=⟨s,c.mL,c.now,c.seen,c.sent⟩
def Tv(c:Ca)(q:Rq)(r:bP):Ca:=⟨c.jk,c.mL,c.now,c.seen++[⟨q,r,c.now⟩],c.sent⟩
end M
set_option maxHeartbeats 4000000
namespace M
open Go
def Ht{s:Sh}(h1:bJ s.aG=true)(h2:s.aD.length<=5)(h3:5<=s.next/\s.next<=19)(h4:1<=s.seq/\s.seq<=100000)(h5:∀b∈s.aD,dF b=true)(h6:zh s.seq s.ai):dB s=true:=by unfold dB;simp only[az,aY];exact⟨⟨⟨⟨⟨h1,by omega⟩,h3⟩,h4⟩,ff.2 h5⟩,FL.2 h6⟩
def zh.sub{S S':Int}{l l':List Kp}(h:zh S l)(hs:List.Sublist l' l)(hS:S<=S'):zh S' l':=
 ⟨λx hx=>by have:=h.k x (hs.subset hx);exact⟨this.1,this.2.1,this.2.2.1,by omega⟩,h.p.sublist hs⟩
def adA{s:Sh}{o:Ob}(h:dB s=true):dB (uz s o)=true:=by
 unfold uz;split
 ·rename_i g;have A:=mw h;unfold Bb at g;simp only[az,tf,Ik] at g;obtain⟨⟨⟨g1,g2⟩,g3⟩,g4⟩:=g;have hn:=A.n;have hq:=A.q;have P:=FL.1 A.os;refine Ht (Lw _ A.d (by omega)) (by have:=A.b;simp only[xd];omega) (Sl hn) (by simp only[xd];omega) (λb hb=>ff.1 A.bs b hb) ?_;have hs:List.Sublist (pg s o) s.ai:=Vg;refine⟨λx hx=>?_,?_⟩
  ·rcases dO.1 hx with hx|hx;·have:=P.k x (hs.subset hx);exact⟨this.1,this.2.1,this.2.2.1,by simp only[xd];omega⟩
   ·simp at hx;subst hx;exact⟨g1,hn,by simp only;omega,by simp only[xd];omega⟩
  ·show (pg s o++[_]).Pairwise _;rw[s7];refine⟨P.p.sublist hs,by simp,λx hx y hy=>?_⟩;simp at hy;subst hy;have h1:=P.k x (hs.subset hx);have h2:=(List.mem_filter.1 hx).2;simp at h2;exact⟨h2.1,h1.2.2.2⟩
 ·exact h
def Xh{s:Sh}{b:Bn}(h:dB s=true):dB (tF s b)=true:=by
 unfold tF;split
 ·rename_i g;have A:=mw h;unfold zu at g;simp only[az,tf,Ik] at g;obtain⟨⟨g1,g2⟩,g3⟩:=g;have hn:=A.n;have hq:=A.q;have hb:=A.b;have P:=FL.1 A.os;refine Ht (tW (Lw _ A.d (by omega))) (by simp only[zv,e9,Vl];omega) hn (by simp only[zv];omega) (λc hc=>?_) (P.sub Vg (by simp only[zv];omega));rcases dO.1 hc with hc|hc;·exact ff.1 A.bs c hc
  ·simp at hc;subst hc;exact g1
 ·exact h
def Lf{d:aQ}(h:bJ d=true):dB (dY d)=true:=by
 have B:=Bo d;have O:=xl d;have hm:=O.m;have hsub:=uB (eO d);refine Ht h B.2.1 (aer λk hk=>(Bm (hsub.subset hk)).1.a) (by simp only[dY];omega) B.1 ⟨λx hx=>?_,?_⟩;·have:=Bm (hsub.subset hx);exact⟨this.1.o,this.1.a,this.1.s.1,by have:=this.2;simp only[dY];omega⟩
 ·have h1:(eO d).Pairwise λx y=>x.at_≠y.at_:=((Hx Kp.seq (fF d).1).pairwise_iff λ{x y} h e=>h e.symm).2 O.d;have h2:(eO d).Pairwise λx y=>x.seq<=y.seq:=agr Kp.seq (fF d).1;have h3:=K2 (eO d);exact((h1.sublist hsub).and ((h2.sublist hsub).and h3)).imp λ⟨a,b,c⟩=>⟨a,by omega⟩
structure oU (c:Ca):Prop where
 s:dB c.jk=true
 n:0<=c.now/\c.now<=1000000
 e:c.seen.length<=1500
 t:c.sent.length<=1500
 f:c.mL.length<=5
 q:∀x∈c.mL,xK x.q=true/\(1<=x.who.length/\x.who.length<=5)/\(x.EA=true->dx x.old=true)
 p:c.mL.Pairwise λx y=>WX x.q y.q=false
end M
set_option maxHeartbeats 4000000
namespace M
open Go
def oU.sent{c:Ca}(h:oU c){l:List Rp}(hl:c.sent.length+l.length<=1500):oU ⟨c.jk,c.mL,c.now,c.seen,c.sent++l⟩:=
 ⟨h.s,h.n,h.e,by simp;omega,h.f,h.q,h.p⟩
def oU.jk{c:Ca}(h:oU c){s:Sh}(hs:dB s=true):oU (shC c s):=⟨hs,h.n,h.e,h.t,h.f,h.q,h.p⟩
def oU.seen{c:Ca}(h:oU c){q:Rq}{r:bP}(hl:c.seen.length<1500):oU (Tv c q r):=⟨h.s,h.n,by simp[Tv];omega,h.t,h.f,h.q,h.p⟩
end M
set_option maxHeartbeats 4000000
namespace M
open Go
end M
set_option maxHeartbeats 4000000
namespace M
open Go
end M
set_option maxHeartbeats 8000000
namespace M
open Go
end M
set_option maxHeartbeats 8000000
namespace M
open Go
end M
set_option maxHeartbeats 8000000
namespace M
open Go
end M
set_option maxHeartbeats 8000000
namespace M
open Go
end M
set_option maxHeartbeats 8000000
namespace M
open Go
def Up{fs:List aJ}(hb:wL aO fs<=1000000000):(dn fs).length<=1073741824/\∀w∈dn fs,w.length<=1073741824:=by have h0:=HO fs;refine⟨by omega,λw hw=>?_⟩;unfold dn at hw;obtain⟨x,hx,rfl⟩:=bg.1 hw;have h1:=CR _ x hx;have h2:=tY fs je;simp only[cD,cZ];omega
def X5(q:Rq)(r:bP)(hq:lC q<=1000000000)(hr:bZ r<=1000000000):ev LI TT 240 [.agg (nM .af q),.agg (jM .af r)]=some (.bool (xm q r),[.dead,.dead]):=by
 rw[ay (b:=mh) (rs:=[.t 4]) (n:=2) rfl rfl];have dI:bZ r=wL aO r.fields+r.body.length:=rfl;have Ru:lC q=q.path.length+wL aO q.fields+q.body.length:=rfl;have V:=Up (fs:=r.fields) (by omega);unfold xm;have u1:=X8 q (by omega);try simp at u1
 have u2:=Jd r (by omega);try simp at u2
 have u3:=OT r.fields (by omega);try simp at u3
 have u4:=OT q.fields (by omega);try simp at u4
 have u5:=DB r.fields (by omega);try simp at u5
 have u6:=Pb (dn r.fields) V.1 V.2;try simp at u6
 rw[show (aX en (dn r.fields) && decide (((dn r.fields).length:Int)<=4))=ng (dn r.fields) from rfl] at u6;generalize ng (dn r.fields)=b6 at u6⊢;generalize dn r.fields=W at u5 u6;generalize o6 r.fields=c1 at u3⊢;generalize o6 q.fields=c2 at u4⊢;generalize fm r=b2 at u2⊢;generalize xK q=b1 at u1⊢;obtain⟨n1,n2,n3,n4,n5,n6⟩:=c1;obtain⟨m1,m2,m3,m4,m5,m6⟩:=c2;simp only at u3 u4;cases b1;·simp -implicitDefEqProofs [mh,u1]
 cases b2;·simp -implicitDefEqProofs [mh,u1,u2]
 by_cases g1:q.method=1;rotate_left;·simp -implicitDefEqProofs [mh,u1,u2,g1]
 rw[g1] at u1;by_cases g2:r.status=200;rotate_left;·simp -implicitDefEqProofs [mh,u1,u2,g1,g2]
 rw[g2] at u2;cases m1;rotate_left;·simp -implicitDefEqProofs [mh,sI,uO,uP,sJ,uQ,uR,uS,u1,u2,u3,u4,g1,g2]
 cases n1;rotate_left;·simp -implicitDefEqProofs [mh,sI,uO,uP,sJ,uQ,uR,uS,u1,u2,u3,u4,g1,g2]
 cases n3;rotate_left;·simp -implicitDefEqProofs [mh,sI,uO,uP,sJ,uQ,uR,uS,u1,u2,u3,u4,g1,g2]
 cases n5;·simp -implicitDefEqProofs [mh,sI,uO,uP,sJ,uQ,uR,uS,u1,u2,u3,u4,g1,g2]
 simp -implicitDefEqProofs [mh,u1,u2,u3,u4,u5,u6,g1,g2,sI,uO,uP,sJ,uQ,uR,uS];all_goals (repeat' split)<;>first|rfl|omega|(simp_all;done)|(simp_all;omega)|skip
def aep{l:List ag}(h:ng l=true):l.length<=4:=by unfold ng at h;simp only[az,aY] at h;omega
def ajz(fs:List aJ)(n:ag):(vB fs n).length<=wL aO fs+1:=by
 have h:=tY fs n;unfold vB;cases hg:dX fs n with
 |none=>simp
 |some x=>rw[hg] at h;simp at h⊢;omega
def aeD{q:Rq}{r:bP}(t:Int)(hm:xm q r=true)(hq:lC q<=100000000)(hr:bZ r<=100000000):b8 (r7 q r t)<=1073741824:=by
 unfold xm at hm;simp only[az] at hm;have hr2:=LG hm.1.1.1.1.1.1.1.2;have hn:=aep hm.2;have dI:bZ r=wL aO r.fields+r.body.length:=rfl;have Ru:lC q=q.path.length+wL aO q.fields+q.body.length:=rfl;have h1:=Uo r.fields;have h2:wL aO r.fields+1<=801:=by omega
 have h3:=ND h2 h2;have h4:wL wS (valuesOf (dn r.fields) q.fields)<=4*(wL aO q.fields+1+1):=oJ (λw hw=>by unfold valuesOf at hw;obtain⟨n,_,rfl⟩:=bg.1 hw;exact ajz q.fields n) (by rw[ajB];exact hn)
 have e:b8 (r7 q r t)=q.path.length+wL wS (dn r.fields)+wL wS (valuesOf (dn r.fields) q.fields)+bZ r:=rfl;omega
def X6(q:Rq)(r:bP)(t:Int)(hq:lC q<=100000000)(hr:bZ r<=100000000):ev LI TT 200 [.agg (nM .af q),.agg (jM .af r),.int .i64 t]=some (.ak [.agg (bw .own (r8 q r t)),.bool (uH q r t)],[.dead,.dead,.dead]):=by
 rw[ay (b:=xS) (rs:=[.c 6 7 true 31,.t 7]) (n:=3) rfl rfl];have dI:bZ r=wL aO r.fields+r.body.length:=rfl;have Ru:lC q=q.path.length+wL aO q.fields+q.body.length:=rfl;have V:=Up (fs:=r.fields) (by omega);have pK:=bE (w:=aO) q.fields;have wJ:=bE (w:=aO) r.fields;have u1:=X5 q r (by omega) (by omega);try simp at u1
 have u2:=DB r.fields (by omega);try simp at u2
 have u3:=Pc r (by omega);try simp at u3
 have u4:=Yc (dn r.fields) q.fields V.1 (by omega);try simp at u4
 unfold r8 uH;cases g1:xm q r<;>rw[g1] at u1;·simp -implicitDefEqProofs [xS,BV,BW,BX,u1,Np]
 have u5:=zC (r7 q r t) (aeD t g1 hq hr);cases g2:dx (r7 q r t)<;>rw[g2] at u5<;>simp[r7] at u5;·simp -implicitDefEqProofs [xS,BV,BW,BX,u1,u2,u3,u4,u5,Np]
 simp -implicitDefEqProofs [xS,u1,u2,u3,u4,r7,BV,BW,BX];all_goals (repeat' split)<;>first|rfl|omega|(simp_all;done)|(simp_all;omega)|skip
def aeH{q:Rq}{r:bP}{t:Int}(h:uH q r t=true):b8 (r8 q r t)<=1300:=by unfold r8;rw[au h];unfold uH at h;simp only[az] at h;exact uI h.2
def aeG{q:Rq}{r:bP}{t:Int}(h:uH q r t=true):(r8 q r t).t=t:=by unfold r8;rw[au h];rfl
end M
set_option maxHeartbeats 8000000
namespace M
open Go
def adV{xt:Nat}{γ δ:Type}{f:ah->cv}(st:γ->ah)(μ:γ->Nat)(Inv:γ->Prop)(E:γ->ah)(R:δ->ah)(IF:δ->Prop)
  (h:∀g,Inv g->(∃g',Inv g'/\f (st g)=some (.exit xt,E g'))\/(∃d,IF d/\f (st g)=some (.ret,R d))\/∃g',Inv g'/\μ g'<μ g/\f (st g)=some (.normal,st g'))(g:γ)(hg:Inv g):(∃g',Inv g'/\aI f (st g)=some (.exit xt,E g'))\/∃d,IF d/\aI f (st g)=some (.ret,R d):=by
 suffices H:∀n g,μ g=n->Inv g->(∃g',Inv g'/\aI f (st g)=some (.exit xt,E g'))\/∃d,IF d/\aI f (st g)=some (.ret,R d) from H _ g rfl hg
 intro n;induction n using Nat.strongRecOn with
 |ind n ih=>
  intro g hn hI;rcases h g hI with ⟨g',h1,h2⟩|⟨d,h1,h2⟩|⟨g',h1,h2,h3⟩;·exact .inl ⟨g',h1,by rw[cT,h2];rfl⟩
  ·exact .inr ⟨d,h1,by rw[cT,h2];rfl⟩
  ·rw[cT,h3];exact ih _ (by omega) g' rfl h1
def Us{fs:List aJ}{n:Nat}(h:wL aO fs<=n):fs.length<=n:=jo (bE fs) h
def UB(c:bA)(t:Int):∃(c':bA) (o:Ob),b8 o<=2000/\o.t=t/\ev LI TT 125 [.ptr .own (aV c),.int .i64 t]=some (.agg (bw .own o),[.ptr .own (aV c'),.dead]):=by
 have H:=adV (xt:=0) (f:=aj (ev LI TT) (aq TT) Cf)
  (λ(g:bA×Nat)=>[(0,.ax 100000 [] 0 0),(1,.int .i64 t),(4,.ptr .own [.str ⟨#[]⟩,.row .own 1 [],.row .own 1 [],.int .i64 0,.row .own 2 [],.str ⟨#[]⟩,.int .i64 0]),(5,.int .i64 g.2),(100000,.ptr .own (aV g.1))])
  (λg=>20 - g.2) (λg=>g.2<=4)
  (λg=>[(0,.ax 100000 [] 0 0),(1,.int .i64 t),(4,.ptr .own [.str ⟨#[]⟩,.row .own 1 [],.row .own 1 [],.int .i64 0,.row .own 2 [],.str ⟨#[]⟩,.int .i64 0]),(5,.int .i64 g.2),(11,.bool false),(100000,.ptr .own (aV g.1))])
  (λ(d:bA×Ob)=>[(4,.ptr .own (bw .own d.2)),(100000,.ptr .own (aV d.1))])
  (λd=>b8 d.2<=2000/\d.2.t=t)
  (λg hg=>by
   obtain⟨c,i⟩:=g;simp only at hg;by_cases h:(i:Int)<4
   ·right;have hw:=aU i (by omega);obtain⟨c1,⟨st,fs,bd⟩,hr,hst,e1⟩:=ajQ c;simp only[bZ] at hr;have hfl:=Us (n:=2000) (fs:=fs) (by omega);have e2:=OW fs [99,97,99,104,101,45,99,111,110,116,114,111,108] (by omega);have d1:=PL fs [99,97,99,104,101,45,99,111,110,116,114,111,108];have d2:=YR fs [99,97,99,104,101,45,99,111,110,116,114,111,108];obtain⟨c2,v,hv,e3⟩:=fQ c1 [[109,97,120,45,97,103,101,61,53],[109,97,120,45,97,103,101,61,50,48]] 30 (by simp) (by simp) (by simp);generalize ri fs [99,97,99,104,101,45,99,111,110,116,114,111,108]=Ej at e2 d1 d2;have e4:=O0 Ej [99,97,99,104,101,45,99,111,110,116,114,111,108] v (by omega);have d3:=S3 Ej [99,97,99,104,101,45,99,111,110,116,114,111,108] v;have d4:=afM Ej [99,97,99,104,101,45,99,111,110,116,114,111,108] v;generalize r9 Ej [99,97,99,104,101,45,99,111,110,116,114,111,108] v=Ek at e4 d3 d4;obtain⟨c3,⟨m,p,qf,qb⟩,hq,hm,e5⟩:=ajP c2;simp only[lC] at hq;have hql:=Us (n:=2000) (fs:=qf) (by omega);have e6:=OW qf [99,97,99,104,101,45,99,111,110,116,114,111,108] (by omega);have d5:=PL qf [99,97,99,104,101,45,99,111,110,116,114,111,108];generalize ri qf [99,97,99,104,101,45,99,111,110,116,114,111,108]=FP at e6 d5;have hdl:([99,97,99,104,101,45,99,111,110,116,114,111,108]:ag).length=13:=rfl;have e7:=X6 ⟨1,p,FP,[]⟩ ⟨200,Ek,bd⟩ t (by simp only[lC,iC];omega) (by simp only[bZ];omega);simp at e3;try simp at e1
    try simp at e2
    try simp at e4
    try simp at e5
    try simp at e6
    cases ho:uH ⟨1,p,FP,[]⟩ ⟨200,Ek,bd⟩ t
    ·rw[ho] at e7;generalize r8 ⟨1,p,FP,[]⟩ ⟨200,Ek,bd⟩ t=ob at e7;try simp at e7
     right;refine⟨(c3,i+1),by simp only;omega,by simp only;omega,?_⟩;simp -implicitDefEqProofs [Cf,Gv,e1,e2,e3,e4,e5,e6,e7,h,hw,cQ,cK,cL]
    ·rw[ho] at e7;have w1:=aeH ho;have w2:=aeG ho;generalize r8 ⟨1,p,FP,[]⟩ ⟨200,Ek,bd⟩ t=ob at e7 w1 w2;try simp at e7
     left;refine⟨(c3,ob),⟨by simp only;omega,by simp only;exact w2⟩,?_⟩;simp -implicitDefEqProofs [Cf,Gv,e1,e2,e3,e4,e5,e6,e7,h,hw,cQ,cK,cL]
   ·left;refine⟨(c,i),hg,?_⟩;simp -implicitDefEqProofs [Cf,Gv,h])
  (c,0) (by simp)
 rcases H with ⟨⟨c',i⟩,h1,e⟩|⟨⟨c',ob⟩,⟨h1,h2⟩,e⟩;·refine⟨c',⟨[47,97],[],[],⟨200,[],[]⟩,t⟩,by simp[b8,bZ,wL],rfl,?_⟩;simp at e;rw[ay (b:=xW) (rs:=_) (n:=2) rfl rfl];simp -implicitDefEqProofs [xW,e,cQ,cK,cL]
 ·refine⟨c',ob,h1,h2,?_⟩;simp at e;rw[ay (b:=xW) (rs:=_) (n:=2) rfl rfl];simp -implicitDefEqProofs [xW,e]
end M
set_option maxHeartbeats 8000000
namespace M
open Go
def ajH(c:bA)(n:Nat)(hn:n<=1000000):∃(c':bA) (l:List Bool),l.length<=n+2/\ev LI TT 194 [.ptr .own (aV c),.int .i64 n]=some (.row .own 1 (l.map eB),[.ptr .own (aV c'),.dead]):=by
 obtain⟨⟨⟨c',i⟩,out⟩,⟨h1,h2⟩,e⟩:=xk (xt:=0) (f:=aj (ev LI TT) (aq TT) Gz)
  (λ(g:(bA×Nat)×List Bool)=>[(0,.ax 100000 [] 0 0),(1,.int .i64 n),(5,.row .own 1 (g.2.map eB)),(6,.int .i64 g.1.2),(100000,.ptr .own (aV g.1.1))])
  (λg=>n+20 - g.1.2) (λg=>g.2.length<=g.1.2/\g.1.2<=n+2)
  (λg=>[(0,.ax 100000 [] 0 0),(1,.int .i64 n),(5,.row .own 1 (g.2.map eB)),(6,.int .i64 g.1.2),(14,.bool false),(100000,.ptr .own (aV g.1.1))])
  (λg hg=>by
   obtain⟨⟨c,i⟩,out⟩:=g;obtain⟨h1,h2⟩:=hg;simp only at h1 h2;obtain⟨c1,v,v0,v1,e1⟩:=kK c 3 (by omega) (by omega);have hw1:IntKind.i64.wrap ((n:Int)+v)=n+v:=bX (by omega) (by omega);have dI:IntKind.i64.wrap ((n:Int)+v - 1)=n+v - 1:=bX (by omega) (by omega);by_cases h:(i:Int)<n+v - 1
   ·right;have hw:=aU i (by omega);obtain⟨c2,b,e2⟩:=HX c1 2 (by omega);have h8:out.length+1<=140737488355328:=by omega
    refine⟨((c2,i+1),out++[b]),⟨by simp;omega,by simp only;omega⟩,by simp only;omega,?_⟩;simp -implicitDefEqProofs [Gz,Mm,e1,e2,h,hw,hw1,dI,bY,h8,cQ,cK,cL]
   ·left;refine⟨((c1,i),out),⟨h1,h2⟩,?_⟩;simp -implicitDefEqProofs [Gz,Mm,e1,h,hw1,dI])
  ((c,0),[]) ⟨by simp,by simp⟩
 simp only at h1 h2;refine⟨c',out,by omega,?_⟩;simp at e;rw[ay (b:=GA) (rs:=_) (n:=2) rfl rfl];simp -implicitDefEqProofs [GA,e]
@[irreducible] def mz(i:Nat):Nat:=1000+30000*i
def Hr(i:Nat):mz (i+1)=mz i+30000:=by unfold mz;omega
def TB{i:Nat}(h:i<=25):mz i<=751000:=by unfold mz;omega
def TC:dB eR=true:=by decide+kernel
def TD:bN eR<=1000:=by decide+kernel
def ajJ(c:bA):∃(c':bA) (s:Sh),dB s=true/\bN s<=1000000/\ev LI TT 120 [.ptr .own (aV c)]=some (.agg (aH .own s),[.ptr .own (aV c')]):=by
 obtain⟨c0,N,n0,n1,u1⟩:=kK c 25 (by omega) (by omega);have u2:=O3
 obtain⟨⟨⟨c',i⟩,s⟩,⟨h1,h2,h3⟩,e⟩:=xk (xt:=0) (f:=aj (ev LI TT) (aq TT) vm)
  (λ(g:(bA×Nat)×Sh)=>[(0,.ax 100000 [] 0 0),(2,.ptr .own [.row .own 1 [],.row .own 2 [],.row .own 9 [],.row .own 4 [],.int .i64 0,.int .i64 0]),(3,.ptr .own (aH .own g.2)),(4,.int .i64 N),(5,.int .i64 g.1.2),(100000,.ptr .own (aV g.1.1))])
  (λg=>50 - g.1.2) (λg=>g.1.2<=25/\dB g.2=true/\bN g.2<=mz g.1.2)
  (λg=>[(0,.ax 100000 [] 0 0),(2,.ptr .own [.row .own 1 [],.row .own 2 [],.row .own 9 [],.row .own 4 [],.int .i64 0,.int .i64 0]),(3,.ptr .own (aH .own g.2)),(4,.int .i64 N),(5,.int .i64 g.1.2),(11,.bool false),(100000,.ptr .own (aV g.1.1))])
  (λg hg=>by
   obtain⟨⟨c,i⟩,s⟩:=g;obtain⟨h1,h2,h3⟩:=hg;simp only at h1 h2 h3;by_cases h:(i:Int)<N
   ·right;have hw:=aU i (by omega);have hB:=TB h1;have hd:=(mw h2).d;have de:bN s=bh s.aG+wL bK s.ai+wL aT s.aD:=rfl;obtain⟨c1,k,k0,k1,e1⟩:=kK c 12 (by omega) (by omega);by_cases g0:k=0
    ·subst g0;obtain⟨c2,b,hb,e2⟩:=UC c1 i;have e3:=XZ s b (by omega) (by omega);rw[au h2] at e3;have b1:=Xh (b:=b) h2;have b2:=Xi s b;generalize (dB s && zu s b)=bb at e3;generalize tF s b=s2 at e3 b1 b2;try simp at e2
     try simp at e3
     refine⟨((c2,i+1),s2),⟨by show i+1<=25;omega,b1,by show bN s2<=mz (i+1);rw[Hr];omega⟩,by show 50 - (i+1)<50 - i;omega,?_⟩;simp -implicitDefEqProofs [vm,ym,yo,yp,yq,h,hw,e1,e2,e3]
    by_cases g1:k=1
    ·subst g1;have e2:=zA s.aG hd;have b2:=wE s.aG;have b1:dB (⟨bQ s.aG,s.ai,s.aD,s.next,s.seq⟩:Sh)=true:=Ht (tW hd) (by have:=(mw h2).b;simp only;omega) (mw h2).n (mw h2).q (λb hb=>ff.1 (mw h2).bs b hb) (FL.1 (mw h2).os);generalize bQ s.aG=d2 at e2 b1 b2;try simp at e2
     refine⟨((c1,i+1),⟨d2,s.ai,s.aD,s.next,s.seq⟩),⟨by show i+1<=25;omega,b1,by show bh d2+wL bK s.ai+wL aT s.aD<=mz (i+1);rw[Hr];omega⟩,by show 50 - (i+1)<50 - i;omega,?_⟩;simp -implicitDefEqProofs [vm,ym,yo,yp,yq,h,hw,e1,e2]
    by_cases g2:k=2
    ·subst g2;obtain⟨hc0,An,hp1⟩:=fL hd;obtain⟨c2,kp,hk,e2⟩:=ajH c1 s.aG.pending.length (by omega);have e3:=X1 s.aG kp hd (by omega);have d1:=YL kp hd;have d2:=YM s.aG kp;have e4:=OZ (o8 s.aG kp) (by omega);unfold dh at e4;rw[au d1] at e4;have b1:=Lf d1;have b2:=Sj (o8 s.aG kp);generalize dY (o8 s.aG kp)=s2 at e4 b1 b2;generalize o8 s.aG kp=d3 at e3 e4 d2 b2;try simp at e2
     try simp at e3
     try simp at e4
     refine⟨((c2,i+1),s2),⟨by show i+1<=25;omega,b1,by show bN s2<=mz (i+1);rw[Hr];omega⟩,by show 50 - (i+1)<50 - i;omega,?_⟩;simp -implicitDefEqProofs [vm,ym,yo,yp,yq,h,hw,e1,e2,e3,e4]
    ·obtain⟨c2,ob,hb,ht,e2⟩:=UB c1 i;have e3:=X4 s ob (by omega) (by omega);rw[au h2] at e3;have b1:=adA (o:=ob) h2;have b2:=adB s ob;generalize (dB s && Bb s ob)=bb at e3;generalize uz s ob=s2 at e3 b1 b2;try simp at e2
     try simp at e3
     refine⟨((c2,i+1),s2),⟨by show i+1<=25;omega,b1,by show bN s2<=mz (i+1);rw[Hr];omega⟩,by show 50 - (i+1)<50 - i;omega,?_⟩;simp -implicitDefEqProofs [vm,ym,yo,yp,yq,h,hw,e1,e2,e3,g0,g1,g2]
   ·left;refine⟨((c,i),s),⟨h1,h2,h3⟩,?_⟩;simp -implicitDefEqProofs [vm,ym,h])
  ((c0,0),eR) ⟨by simp,TC,by show bN eR<=mz 0;have:=TD;unfold mz;omega⟩
 simp only at h1 h2 h3;have hB:=TB h1;refine⟨c',s,h2,by omega,?_⟩;try simp[eR] at u2
 try simp[eR] at e
 rw[ay (b:=GS) (rs:=_) (n:=1) rfl rfl];simp -implicitDefEqProofs [GS,u1,u2,e]
end M
set_option maxHeartbeats 8000000
namespace M
open Go
def Ja(d:aQ)(at_:Int)(t:ag)(h:bJ d=true)(hp:d.pending.length=16):ev LI TT 122 [.agg (bU .af d),.int .i64 at_,.str ⟨t.toArray⟩]=some (.ak [.agg (bU .own d),.bool false],[.dead,.dead,.dead]):=by
 rw[ay (b:=xO) (rs:=[.c 6 2 true 50,.t 7]) (n:=3) rfl rfl];obtain⟨h0,h1,h1'⟩:=fL h;have h2:=tJ d (by omega);have h3:=DF d (by omega) (by omega);rw[h] at h2;try simp at h2
 try simp at h3
 simp -implicitDefEqProofs [xO,h2,h3,hp,bY,rowAt];all_goals (repeat' split)<;>first|rfl|omega|(simp_all;done)|(simp_all;omega)|skip
def aeV{d:aQ}{a:Int}{t:ag}(h:bJ d=true)(ha:0<=a/\a<=19)(hp:d.pending.length<16):bJ ⟨d.cells,d.pending++[⟨a,t⟩]⟩=true:=by
 obtain⟨h0,h1,h2⟩:=fL h;unfold bJ at h⊢;simp only[az,aY] at h⊢;refine⟨⟨ff.2 λw hw=>?_,h.1.2⟩,by simp;omega⟩;rcases dO.1 hw with hw|hw;·exact ff.1 h.1.1 w hw
 ·simp at hw;rw[hw];simpa [ni] using ha
@[irreducible] def lK(i:Nat):Nat:=200+50*i
def DV(i:Nat):lK (i+1)=lK i+50:=by unfold lK;omega
def PJ{i:Nat}(h:i<=22):lK i<=1300:=by unfold lK;omega
def YO:bJ ⟨List.replicate 20 [],[]⟩=true:=by decide
def YP:bh ⟨List.replicate 20 [],[]⟩<=200:=by decide
def ajI(c:bA):∃(c':bA) (d:aQ),bJ d=true/\bh d<=2000/\ev LI TT 195 [.ptr .own (aV c)]=some (.agg (bU .own d),[.ptr .own (aV c')]):=by
 obtain⟨c0,N,n0,n1,u1⟩:=kK c 22 (by omega) (by omega);have u2:=OV
 obtain⟨⟨⟨c',i⟩,d⟩,⟨h1,h2,h3⟩,e⟩:=xk (xt:=0) (f:=aj (ev LI TT) (aq TT) u0)
  (λ(g:(bA×Nat)×aQ)=>[(0,.ax 100000 [] 0 0),(2,.ptr .own [.row .own 1 [],.row .own 2 []]),(3,.ptr .own (bU .own g.2)),(4,.int .i64 N),(5,.int .i64 g.1.2),(100000,.ptr .own (aV g.1.1))])
  (λg=>50 - g.1.2) (λg=>g.1.2<=22/\bJ g.2=true/\bh g.2<=lK g.1.2)
  (λg=>[(0,.ax 100000 [] 0 0),(2,.ptr .own [.row .own 1 [],.row .own 2 []]),(3,.ptr .own (bU .own g.2)),(4,.int .i64 N),(5,.int .i64 g.1.2),(13,.bool false),(100000,.ptr .own (aV g.1.1))])
  (λg hg=>by
   obtain⟨⟨c,i⟩,d⟩:=g;obtain⟨h1,h2,h3⟩:=hg;simp only at h1 h2 h3;by_cases h:(i:Int)<N
   ·right;have hw:=aU i (by omega);have hB:=PJ h1;obtain⟨q0,q1,q2⟩:=fL h2;obtain⟨c1,a,a0,a1,e1⟩:=kK c 20 (by omega) (by omega);obtain⟨c2,t,ht,e2⟩:=fQ c1 [[],[97],[98],[99,99]] 4 (by simp) (by simp) (by simp);obtain⟨c3,b,e4⟩:=HX c2 9 (by omega);simp at e2;by_cases hp:d.pending.length<16
    ·have e3:=zz d a t h2 ⟨a0,by omega⟩ hp;have o1:=aeV (t:=t) h2 ⟨a0,by omega⟩ hp;have o2:bh ⟨d.cells,d.pending++[⟨a,t⟩]⟩<=bh d+10:=by simp[bh,wL,cS];omega
     generalize (⟨d.cells,d.pending++[⟨a,t⟩]⟩:aQ)=d2 at e3 o1 o2;try simp at e3
     cases b;·refine⟨((c3,i+1),d2),⟨by show i+1<=22;omega,o1,by show bh d2<=lK (i+1);rw[DV];omega⟩,by show 50 - (i+1)<50 - i;omega,?_⟩;simp -implicitDefEqProofs [u0,xX,xY,xZ,yb,vj,yf,qy,sQ,sR,vk,sS,va,vb,x7,ve,x8,x9,sP,vf,vg,ya,vh,yc,yd,ye,h,hw,e1,e2,e4,cQ,cK,cL,e3]
     ·have e5:=zA d2 o1;have o3:=tW o1;have o4:=wE d2;generalize bQ d2=d3 at e5 o3 o4;try simp at e5
      refine⟨((c3,i+1),d3),⟨by show i+1<=22;omega,o3,by show bh d3<=lK (i+1);rw[DV];omega⟩,by show 50 - (i+1)<50 - i;omega,?_⟩;simp -implicitDefEqProofs [u0,xX,xY,xZ,yb,vj,yf,qy,sQ,sR,vk,sS,va,vb,x7,ve,x8,x9,sP,vf,vg,ya,vh,yc,yd,ye,h,hw,e1,e2,e4,cQ,cK,cL,e3,e5]
    ·have e3:=Ja d a t h2 (by omega);try simp at e3
     cases b;·refine⟨((c3,i+1),d),⟨by show i+1<=22;omega,h2,by show bh d<=lK (i+1);rw[DV];omega⟩,by show 50 - (i+1)<50 - i;omega,?_⟩;simp -implicitDefEqProofs [u0,xX,xY,xZ,yb,vj,yf,qy,sQ,sR,vk,sS,va,vb,x7,ve,x8,x9,sP,vf,vg,ya,vh,yc,yd,ye,h,hw,e1,e2,e4,cQ,cK,cL,e3]
     ·have e5:=zA d h2;have o1:=tW h2;have o2:=wE d;generalize bQ d=d2 at e5 o1 o2;try simp at e5
      refine⟨((c3,i+1),d2),⟨by show i+1<=22;omega,o1,by show bh d2<=lK (i+1);rw[DV];omega⟩,by show 50 - (i+1)<50 - i;omega,?_⟩;simp -implicitDefEqProofs [u0,xX,xY,xZ,yb,vj,yf,qy,sQ,sR,vk,sS,va,vb,x7,ve,x8,x9,sP,vf,vg,ya,vh,yc,yd,ye,h,hw,e1,e2,e4,cQ,cK,cL,e3,e5]
   ·left;refine⟨((c,i),d),⟨h1,h2,h3⟩,?_⟩;simp -implicitDefEqProofs [u0,xX,h])
  ((c0,0),⟨List.replicate 20 [],[]⟩) ⟨by simp,YO,by show bh _<=lK 0;have:=YP;unfold lK;omega⟩
 simp only at h1 h2 h3;have hB:=PJ h1;refine⟨c',d,h2,by omega,?_⟩;try simp at u2
 try simp at e
 rw[ay (b:=GB) (rs:=_) (n:=1) rfl rfl];simp -implicitDefEqProofs [GB,u1,u2,e]
end M
set_option maxHeartbeats 8000000
namespace M
open Go
def ajG(c:bA):∃(c':bA) (d:aQ),bh d<=5000/\(∀w∈d.pending,bI w.at_)/\ev LI TT 121 [.ptr .own (aV c)]=some (.agg (bU .own d),[.ptr .own (aV c')]):=by
 obtain⟨c1,d,hd,hw,u1⟩:=ajI c;obtain⟨q0,q1,q2⟩:=fL hd;obtain⟨c2,k,k0,k1,u2⟩:=kK c1 15 (by omega) (by omega);have hb:∀w∈d.pending,bI w.at_:=λw hw=>by have:=q0 w hw;unfold bI;omega
 have de:bh d=wL wS d.cells+wL cS d.pending:=rfl;try simp at u1
 by_cases g0:k=0
 ·subst g0;obtain⟨cs,ps⟩:=d;simp only at q1 q2 de hb u1;refine⟨c2,⟨cs.tail,ps⟩,?_,hb,?_⟩
  ·show wL wS cs.tail+wL cS ps<=5000
   have:wL wS cs.tail<=wL wS cs:=by
    cases cs with
    |nil=>simp
    |cons a l=>simp[wL];omega
   omega
  have h1:1<=cs.length:=by omega
  have h1':(1:Int)<=cs.length:=by omega
  have ht:List.take cs.length (cs.map eS)=cs.map eS:=s8 (by simp);have ht2:X.clean.bz (cs.map eS).tail=true:=by have:=YD cs.tail;rwa [List.map_tail] at this
  rw[ay (b:=oD) (rs:=_) (n:=1) rfl rfl];simp -implicitDefEqProofs [oD,yg,yh,u1,u2,h1,h1',xw,ht,ht2]
 by_cases g1:k=1
 ·subst g1;obtain⟨c3,a,ha,u3⟩:=HY c2 [-1,19,20] (by simp) (by simp);obtain⟨cs,ps⟩:=d;simp only at q1 q2 de hb u1;simp at u3;have h8:(ps.length+1)*24<=140737488355328:=by omega
  refine⟨c3,⟨cs,ps++[⟨a,[]⟩]⟩,?_,λw hw=>?_,?_⟩;·show wL wS cs+wL cS (ps++[⟨a,[]⟩])<=5000;simp[wL,cS] at de⊢;omega
  ·rcases dO.1 hw with hw|hw;·exact hb w hw
   ·simp at hw ha;rw[hw];unfold bI;simp only;omega
  rw[ay (b:=oD) (rs:=_) (n:=1) rfl rfl];simp -implicitDefEqProofs [oD,yg,yh,u1,u2,u3,bY,h8,cQ,cK,cL]
 by_cases g2:k=2
 ·subst g2;obtain⟨c3,v,v0,v1,u3⟩:=kK c2 2 (by omega) (by omega);obtain⟨n,rfl⟩:∃n:Nat,v=n:=⟨v.toNat,by omega⟩;have hw1:IntKind.i64.wrap (16+(n:Int))=((16+n:Nat):Int):=by rw[bX (by omega) (by omega)];omega
  obtain⟨cs,ps⟩:=d;simp only at q1 q2 de hb u1;refine⟨c3,⟨cs,List.replicate (16+n) ⟨0,[]⟩⟩,?_,λw hw=>?_,?_⟩
  ·show wL wS cs+wL cS (List.replicate (16+n) ⟨0,[]⟩)<=5000;have:wL cS (List.replicate (16+n) ⟨0,[]⟩)<=40:=by simp[wL,cS];omega
   omega
  ·have:=(Nu.1 hw).2;rw[this];unfold bI;simp
  rw[ay (b:=oD) (rs:=_) (n:=1) rfl rfl];simp -implicitDefEqProofs [oD,yg,yh,u1,u2,u3,hw1,cQ,cK,cL];have hz:(16+(n:Int)).toNat=16+n:=by omega
  refine⟨⟨by omega,by omega⟩,?_,hz⟩;rw[hz];have:=YE (List.replicate (16+n) ⟨0,[]⟩);simpa using this
 ·refine⟨c2,d,by omega,hb,?_⟩;rw[ay (b:=oD) (rs:=_) (n:=1) rfl rfl];simp -implicitDefEqProofs [oD,yg,yh,u1,u2,g0,g1,g2]
end M
set_option maxHeartbeats 8000000
namespace M
open Go
structure Rws (R:List (List X)) (os:List Kp):Prop where
 cl:X.clean.bz R=true
 md:X.bV .af R=os.map (aE .af)
 len:R.length=os.length
 el:∀i (h:i<os.length),∃m:Md,(m=.own\/m=.sl)/\R[i]?=some (aE m os[i])
end M
set_option maxHeartbeats 4000000
namespace M
open Go
def eT(k:Kp):ag:=k.obj.path++64::cV k.obj.t
def oG(i:Nat)(g:ag)(k:Kp):ag:=(if i=0 then g else g++[32])++eT k
def TF:∀(l:List Kp) (i:Nat) (g:ag),i≠0->foldI oG i l g=g++Lib.joinTail [32] (l.map eT)
 |[],i,g,_=>by simp[foldI,Lib.joinTail]
 |k::l,i,g,h=>by rw[foldI,TF l (i+1) _ (by omega)];simp[oG,h,Lib.joinTail]
def agl(l:List Kp):foldI oG 0 l []=Lib.join (l.map eT) [32]:=by
 cases l with
 |nil=>rfl
 |cons k l=>rw[foldI,TF l 1 _ (by omega),bn,Lib.join_cons];simp[oG]
def Hu{l:List Kp}{k:Kp}(h:k∈l):(eT k).length<=wL bK l+8:=by have h1:=yP h;have h2:b8 k.obj=k.obj.path.length+wL wS k.obj.names+wL wS k.obj.values+bZ k.obj.resp:=rfl;have h3:=n9 k.obj.t;unfold eT;simp;omega
def oF(s:Sh):ag:=if dB s=true then (if s.ai=[] then [45] else Lib.join (s.ai.map eT) [32])++(if s.aD=[] then [] else [32,33]++cV (s.aD.length:Int)) else []
def TE(s:Sh):s.aD.length<=bN s:=by
 have h1:=bE (w:=aT) s.aD;have h2:wL aT s.aD<=bN s:=by unfold bN;omega
 omega
def vu(s:Sh):wL bK s.ai<=bN s:=by unfold bN;omega
def V8(s:Sh)(hb:bN s<=1048576)(g:ag)(hinv:g.length<=0*2097152):aI (aj (ev LI TT) (aq TT) xV) [(1,.ptr .own (aH .af s)),(3,.str ⟨(g).toArray⟩),(4,.int .i64 0)]=some (.exit 0,[(1,.ptr .own (aH .af s)),(3,.str ⟨((foldI (oG) 0 (s.ai) g)).toArray⟩),(4,.int .i64 (s.ai).length),(12,.bool false)]):=by
 refine gT (f:=aj (ev LI TT) (aq TT) xV) (s.ai) (λi (g:ag)=>[(1,.ptr .own (aH .af s)),(3,.str ⟨(g).toArray⟩),(4,.int .i64 i)]) (oG) (λg=>[(1,.ptr .own (aH .af s)),(3,.str ⟨(g).toArray⟩),(4,.int .i64 (s.ai).length),(12,.bool false)]) (λi (g:ag)=>g.length<=i*2097152) g hinv (λi b g hi hl hinv=>?_) (λi b g hi hinv=>?_) (λg hinv=>?_)
 ·have hw:=aU i (by have:=bE (w:=bK) s.ai;have:=vu s;omega);obtain⟨_,rfl⟩:=aL.1 hi;have h1:=Hu (cy hl);have h2:=vu s;have h3:=bE (w:=bK) s.ai;have u1:=qV (s.ai[i]).obj.t;have h4:(eT s.ai[i]).length=(s.ai[i]).obj.path.length+(cV (s.ai[i]).obj.t).length+1:=by unfold eT;simp;omega
  have Eu:(⟨#[64]⟩:ByteArray)=⟨([64]:ag).toArray⟩:=rfl;have h32:(⟨#[32]⟩:ByteArray)=⟨([32]:ag).toArray⟩:=rfl;have hp:g.length<=2199023255552:=by omega
  have hs1:g.length<=9223372036854775806:=by omega
  have hs2:g.length+1<=9223372036854775807:=by omega
  have hs3:g.length+(s.ai[i]).obj.path.length<=9223372036854775806:=by omega
  have ac1:g.length+(s.ai[i]).obj.path.length<=9223372036854775807:=by omega
  have hs4:g.length+((s.ai[i]).obj.path.length+1)<=9223372036854775807:=by omega
  by_cases g0:i=0
  ·subst g0;have hg:g=[]:=by cases g with|nil=>rfl|cons a b=>simp at hinv
   subst hg;have hq1:(s.ai[0]).obj.path.length<=9223372036854775806:=by omega
   have rL:(s.ai[0]).obj.path.length+1+(cV (s.ai[0]).obj.t).length<=9223372036854775807:=by omega
   have hq3:(s.ai[0]).obj.path.length<=9223372036854775807:=by omega
   simp at hw;simp -implicitDefEqProofs [xV,Gm,hl,hw,u1,oG,eT,Eu,fq,hq1,rL,hq3]
  have gp:0<i:=by omega
  have gpi:(0:Int)<i:=by omega
  have hq4:g.length+1+(s.ai[i]).obj.path.length<=9223372036854775807:=by omega
  have hq5:g.length+((s.ai[i]).obj.path.length+1)<=9223372036854775806:=by omega
  have hq6:g.length+((s.ai[i]).obj.path.length+1+1)+(cV (s.ai[i]).obj.t).length<=9223372036854775807:=by omega
  simp -implicitDefEqProofs [xV,Gm,hl,hw,u1,oG,eT,Eu,h32,fq,g0,gp,gpi,hs1,hs2,hs3,ac1,hs4,hq4,hq5,hq6];all_goals try omega
 ·have h1:=Hu (mB hi);have h2:=vu s;have h3:(oG i g b).length<=g.length+1+(eT b).length:=by unfold oG;split<;>simp<;>omega
  try simp only at hinv
  try simp only
  omega
 ·simp -implicitDefEqProofs [xV,Gm]
def RI:∀(l:List Kp) (n:Nat),(∀k∈l,(eT k).length<=n)->(Lib.joinTail [32] (l.map eT)).length<=l.length*(n+1)
 |[],n,_=>by simp[Lib.joinTail]
 |k::l,n,h=>by have ih:=RI l n λx hx=>h x (bO _ hx);have h1:=h k (bq ..);simp only[Lib.joinTail,bn,Is,e9,cu,iC] at ih⊢;rw[e8];omega
def RJ(s:Sh)(hb:bN s<=1048576):(Lib.join (s.ai.map eT) [32]).length<=2199023255552/\(s.ai≠[]->Lib.join (s.ai.map eT) [32]≠[]):=by
 have h2:=vu s;have h3:=bE (w:=bK) s.ai;have hk:∀k∈s.ai,(eT k).length<=1048584:=λk hk=>by have:=Hu hk;omega
 cases hs:s.ai with
 |nil=>simp[Lib.join_nil]
 |cons k l=>
  rw[hs] at hk h3 h2;have h4:=RI l 1048584 λx hx=>hk x (bO _ hx);have h5:=hk k (bq ..);have h6:l.length<=1048576:=by simp at h3;omega
  have h7:l.length*(1048584+1)<=1048576*1048585:=ND h6 (eC _);rw[bn,Lib.join_cons];refine⟨by simp only[e9];omega,λ_ h=>?_⟩;have:=dr List.length h;simp[eT] at this
def Ya(s:Sh)(hb:bN s<=1048576):ev LI TT 44 [.agg (aH .af s)]=some (.str ⟨(oF s).toArray⟩,[.dead]):=by
 rw[ay (b:=sN) (rs:=[.t 2]) (n:=1) rfl rfl];have hj:=RJ s hb;have Q5:s.aD.length<=1048576:=by have:=TE s;omega
 unfold oF;have h2:=n9 (s.aD.length:Int);have hsh:(⟨#[32,33]⟩:ByteArray)=⟨([32,33]:ag).toArray⟩:=rfl;have hds:(⟨#[45]⟩:ByteArray)=⟨([45]:ag).toArray⟩:=rfl;have u1:=Je s (by omega);try simp at u1
 have u2:=V8 s hb [] (by simp);try simp at u2
 have u3:=qV (s.aD.length:Int);try simp at u3
 rw[agl] at u2;generalize dB s=b1 at u1;cases b1;·simp -implicitDefEqProofs [sN,u1]
 generalize hJ:Lib.join (s.ai.map eT) [32]=J at u2 hj;try simp at u2
 have hjl:J.length<=9223372036854775805:=by omega
 have Kk:J.length+2+(cV (s.aD.length:Int)).length<=9223372036854775807:=by omega
 by_cases g1:s.ai=[]
 ·have J2:J=[]:=by rw[<-hJ,g1];rfl
  subst J2;by_cases g2:s.aD=[]
  ·have hb0:¬0<s.aD.length:=by rw[g2];simp
   have ua:¬(0:Int)<s.aD.length:=by omega
   simp -implicitDefEqProofs [sN,u1,u2,u3,eq_true g1,eq_true g2,hb0,ua]
  ·have g3:0<s.aD.length:=Dg.2 g2;have g4:(0:Int)<s.aD.length:=by omega
   have g5:1+2+(cV (s.aD.length:Int)).length<=9223372036854775807:=by omega
   simp -implicitDefEqProofs [sN,u1,u2,u3,eq_true g1,eq_false g2,g3,g4,g5,hsh,hds,fq];try omega
 have QT:=hj.2 g1;by_cases g2:s.aD=[]
 ·have hb0:¬0<s.aD.length:=by rw[g2];simp
  have ua:¬(0:Int)<s.aD.length:=by omega
  simp -implicitDefEqProofs [sN,u1,u2,u3,eq_false g1,eq_true g2,eq_false QT,hb0,ua]
 have g3:0<s.aD.length:=Dg.2 g2;have g4:(0:Int)<s.aD.length:=by omega
 simp -implicitDefEqProofs [sN,u1,u2,u3,eq_false g1,eq_false g2,g3,g4,eq_false QT,hsh,fq,hjl,Kk];all_goals try omega
def VC(s:Sh)(hb:bN s<=1048576):aI (aj (ev LI TT) (aq TT) AX) [(1,.ptr .own (aH .af s)),(3,.row .own 1 (([]).map eS)),(10,.ax 1 [] 0 2),(11,.row .af 9 (s.ai.map (aE .af))),(12,.int .i64 s.ai.length),(13,.int .i64 0)]=some (.exit 0,[(1,.ptr .own (aH .af s)),(3,.row .own 1 ((((s.ai).flatMap (λk=>[eT k]))).map eS)),(10,.ax 1 [] 0 2),(11,.row .af 9 (s.ai.map (aE .af))),(12,.int .i64 s.ai.length),(13,.int .i64 (s.ai).length),(14,.bool false)]):=by
 refine pW (f:=aj (ev LI TT) (aq TT) AX) (s.ai) (λk=>[eT k]) (λi out=>[(1,.ptr .own (aH .af s)),(3,.row .own 1 ((out).map eS)),(10,.ax 1 [] 0 2),(11,.row .af 9 (s.ai.map (aE .af))),(12,.int .i64 s.ai.length),(13,.int .i64 i)]) (λout=>[(1,.ptr .own (aH .af s)),(3,.row .own 1 ((out).map eS)),(10,.ax 1 [] 0 2),(11,.row .af 9 (s.ai.map (aE .af))),(12,.int .i64 s.ai.length),(13,.int .i64 (s.ai).length),(14,.bool false)]) (λi b out hi hl hout=>?_) (λout hout=>?_)
 ·have hw:=aU i (by have:=bE (w:=bK) s.ai;have:=vu s;omega);obtain⟨_,rfl⟩:=aL.1 hi;have hx:=Hu (cy hl);have h2:=vu s;have h3:=bE (w:=bK) s.ai;have hlo:out.length=i:=by rw[hout];exact zX _ _ _ (by omega)
  have hlz:(i+1)*16<=140737488355328:=by omega
  have h4:(eT s.ai[i]).length=(s.ai[i]).obj.path.length+(cV (s.ai[i]).obj.t).length+1:=by unfold eT;simp;omega
  have Eu:(⟨#[64]⟩:ByteArray)=⟨([64]:ag).toArray⟩:=rfl;have hq1:(s.ai[i]).obj.path.length<=9223372036854775806:=by omega
  have rL:(s.ai[i]).obj.path.length+1+(cV (s.ai[i]).obj.t).length<=9223372036854775807:=by omega
  have u1:=Dx (s.ai[i]).obj.t;try simp at u1
  simp -implicitDefEqProofs [AX,KI,hl,hw,u1,hlo,hlz,bY,eT,Eu,fq,hq1,rL]
 ·simp -implicitDefEqProofs [AX,KI]
def OK(s:Sh)(hb:bN s<=1048576):ev LI TT 43 [.agg (aH .af s)]=some (.str ⟨(oF s).toArray⟩,[.dead]):=by
 rw[ay (b:=rQ) (rs:=[.t 2]) (n:=1) rfl rfl];have hj:=RJ s hb;have hol:s.ai.length<=1048576:=by have:=bE (w:=bK) s.ai;have:=vu s;omega
 have Q5:s.aD.length<=1048576:=by have:=TE s;omega
 unfold oF;have h2:=n9 (s.aD.length:Int);have hsh:(⟨#[32,33]⟩:ByteArray)=⟨([32,33]:ag).toArray⟩:=rfl;have hds:(⟨#[45]⟩:ByteArray)=⟨([45]:ag).toArray⟩:=rfl;have u1:=OJ s (by omega);try simp at u1
 have u2:=VC s hb;try simp at u2
 have u3:=Dx (s.aD.length:Int);try simp at u3
 rw[zW] at u2;have u4:=Yu (s.ai.map eT) [32] (by omega) (by simp;omega);generalize dB s=b1 at u1;cases b1;·simp -implicitDefEqProofs [rQ,u1]
 generalize hJ:Lib.join (s.ai.map eT) [32]=J at u4 hj;have gW:s.ai.map eT=[]↔s.ai=[]:=by simp
 generalize s.ai.map eT=W at u2 u4 gW hJ;try simp at u2
 try simp at u4
 have hjl:J.length<=9223372036854775805:=by omega
 have Kk:J.length+(2+(cV (s.aD.length:Int)).length)<=9223372036854775807:=by omega
 have Rh:2+(cV (s.aD.length:Int)).length<=9223372036854775807:=by omega
 by_cases g1:s.ai=[]
 ·have wF:=gW.2 g1;have J2:J=[]:=by rw[<-hJ,wF];rfl
  subst J2;by_cases g2:s.aD=[]
  ·have hb0:¬0<s.aD.length:=by rw[g2];simp
   have ua:¬(0:Int)<s.aD.length:=by omega
   simp -implicitDefEqProofs [rQ,u1,u2,u3,u4,eq_true g1,eq_true wF,eq_true g2,hb0,ua]
  ·have g3:0<s.aD.length:=Dg.2 g2;have g4:(0:Int)<s.aD.length:=by omega
   simp -implicitDefEqProofs [rQ,u1,u2,u3,u4,eq_true g1,eq_true wF,eq_false g2,g3,g4,Rh,hsh,hds,fq];try omega
 have wF:=mt gW.1 g1;by_cases g2:s.aD=[]
 ·have hb0:¬0<s.aD.length:=by rw[g2];simp
  have ua:¬(0:Int)<s.aD.length:=by omega
  simp -implicitDefEqProofs [rQ,u1,u2,u3,u4,eq_false g1,eq_false wF,eq_true g2,hb0,ua]
 have g3:0<s.aD.length:=Dg.2 g2;have g4:(0:Int)<s.aD.length:=by omega
 simp -implicitDefEqProofs [rQ,u1,u2,u3,u4,eq_false g1,eq_false wF,eq_false g2,g3,g4,hsh,fq,hjl,Kk,Rh];all_goals try omega
end M
set_option maxHeartbeats 8000000
namespace M
open Go
def XX(code:List UInt8):ev LI TT 8 [.row .af 1 (code.map eU)]=some (.bool (decide (1048576<code.length)),[.dead]):=by rw[ay (b:=Fx) (rs:=[.t 2]) (n:=1) rfl rfl];simp -implicitDefEqProofs [Fx];omega
def QB(a:Int)(ha:0<=a/\a<=19):∀(ws:List Wr) (i:Nat) (cs:List ag),cs.length=20->(∀w∈ws,0<=w.at_/\w.at_<=19)->(foldI (iu (gR [] true)) i ws cs).getD a.toNat []=ws.foldl (λout w=>if w.at_=a then w.text else out) (cs.getD a.toNat [])
 |[],i,cs,_,_=>rfl
 |w::ws,i,cs,hc,hw=>by
  have h0:=hw w bq;have hl:(iu (gR [] true) i cs w).length=20:=by rw[Fy];exact hc
  rw[foldI,QB a ha ws (i+1) _ hl (λx hx=>hw x (bO _ hx)),nE];congr 1;unfold iu;simp only[gR,Bool.true_or,cY];by_cases e:w.at_=a;·rw[au e,e];simp only[iT];rw[List.getElem?_set_self (by omega)];rfl
  ·rw[aC e];simp only[iT];rw[NU (by omega)]
def QA{d:aQ}(h:bJ d=true)(a:Int)(ha:0<=a/\a<=19):cC (bQ d) a=cC d a:=by obtain⟨h0,h1,h2⟩:=fL h;unfold cC bQ mV;exact QB a ha d.pending 0 d.cells h1 h0
def Sa{d:aQ}(h:bJ d=true):dw (bQ d)=dw d:=by
 have fD:∀(l:List Nat) (i:Nat) (g:List Bn×Int),i+l.length<=20->cN (gC (bQ d)) i l g=cN (gC d) i l g:=by
  intro l;induction l with
  |nil=>intro i g _;rfl
  |cons x l ih=>
   intro i g hi;simp only[cu] at hi;have e:gC (bQ d) i g x=gC d i g x:=by unfold gC;rw[QA h i (by omega)]
   simp only[cN,e];split;·exact ih _ _ (by omega)
   ·rfl
 unfold dw;rw[fD _ _ _ (by simp)]
def adX{d:aQ}(h:bJ d=true)(bs:List Bn)(m:Int):jd bs (bQ d) m=jd bs d m:=by
 have fD:∀(l:List Nat) (i:Nat) (g:List Kp×Int),i+l.length<=15->foldI (kE bs (bQ d)) i l g=foldI (kE bs d) i l g:=by
  intro l;induction l with
  |nil=>intro i g _;rfl
  |cons x l ih=>
   intro i g hi;simp only[cu] at hi;have e:kE bs (bQ d) i g x=kE bs d i g x:=by unfold kE;rw[QA h ((5+i:Nat):Int) (by omega)]
   rw[foldI,foldI,e];exact ih _ _ (by omega)
 unfold jd;rw[fD _ _ _ (by simp)]
def aej{d:aQ}(h:bJ d=true):(dY (bQ d)).ai=(dY d).ai/\(dY (bQ d)).aD=(dY d).aD/\(dY (bQ d)).next=(dY d).next/\(dY (bQ d)).seq=(dY d).seq:=by
 have e:fF (bQ d)=fF d:=by unfold fF;rw[Sa h,adX h]
 unfold dY eO;rw[e,Sa h];exact⟨rfl,rfl,rfl,rfl⟩
def aek(d:aQ):∀k∈(dY d).ai,fI (dY d).aD k.obj=false:=by
 have hI:∀k∈(fF d).1,fI (dw d).1 k.obj=false:=by
  unfold fF jd;refine JP (I:=λg:List Kp×Int=>∀k∈g.1,fI (dw d).1 k.obj=false) (λi g b hg=>?_) _ _ _ (by simp);unfold kE;split
  ·simp only;split;·exact hg
   ·rename_i hn;intro k hk;rcases dO.1 hk with hk|hk;·exact hg k hk
    ·simp at hk;rw[hk];simpa using hn
  ·exact hg
 intro k hk;have h1:k∈eO d:=(uB (eO d)).subset hk;exact hI k (La.1 h1)
def agk:(dY (bQ eR.aG)).ai=eR.ai/\(dY (bQ eR.aG)).aD=eR.aD/\(dY (bQ eR.aG)).next=eR.next/\(dY (bQ eR.aG)).seq=eR.seq:=by decide+kernel
def ael(d:aQ):dB (dh d)=true/\bJ (dh d).aG=true/\(∀k∈(dh d).ai,fI (dh d).aD k.obj=false)/\dB (dh (bQ (dh d).aG))=true/\oF (dh (bQ (dh d).aG))=oF (dh d)/\(dh (bQ (dh d).aG)).seq=(dh d).seq/\(dh (bQ (dh d).aG)).next=(dh d).next:=by
 have key:∀S:Sh,dB S=true->(dY (bQ S.aG)).ai=S.ai/\(dY (bQ S.aG)).aD=S.aD/\(dY (bQ S.aG)).next=S.next/\(dY (bQ S.aG)).seq=S.seq->(∀k∈S.ai,fI S.aD k.obj=false)->dB S=true/\bJ S.aG=true/\(∀k∈S.ai,fI S.aD k.obj=false)/\dB (dh (bQ S.aG))=true/\oF (dh (bQ S.aG))=oF S/\(dh (bQ S.aG)).seq=S.seq/\(dh (bQ S.aG)).next=S.next:=by
  intro S hS he hh;have hd:=(mw hS).d;have hf:=tW hd;have hm:=Lf hf;have e:dh (bQ S.aG)=dY (bQ S.aG):=by unfold dh;rw[au hf]
  rw[e];refine⟨hS,hd,hh,hm,?_,he.2.2.2,he.2.2.1⟩;unfold oF;rw[hm,hS,he.1,he.2.1]
 by_cases h:bJ d=true
 ·have e:dh d=dY d:=by unfold dh;rw[au h]
  rw[e];exact key (dY d) (Lf h) (aej h) (aek d)
 ·have e:dh d=eR:=by unfold dh;rw[aC h]
  rw[e];exact key eR TC agk (by simp[eR])
def aei(d:aQ):bh (dh d).aG<=bh d+1000:=by
 unfold dh;split;·show bh d<=_;omega
 ·have h:=TD;have e:bN eR=bh eR.aG+wL bK eR.ai+wL aT eR.aD:=rfl;omega
def S0(d:aQ)(a:Int)(t:ag):bh ⟨d.cells,d.pending++[⟨a,t⟩]⟩<=bh d+t.length+10:=by simp[bh,wL,cS];omega
def ajF(code:List UInt8)(hl:code.length<=1048576):∃(d:aQ),bh d<=1010000/\∃ps,ev LI TT 40 [.row .sl 1 (code.map eU)]=some (.agg (bU .own d),ps):=by
 obtain⟨c,hc⟩:=ajM code hl;obtain⟨c1,⟨d,so,sb,sn,sq⟩,hs,hw,u1⟩:=ajJ c;have hd:bJ d=true:=(mw hs).d;simp only[bN] at hw;obtain⟨q0,q1,q2⟩:=fL hd;obtain⟨c2,k,k0,k1,u2⟩:=kK c1 9 (by omega) (by omega);try simp at u1
 by_cases g0:k=0
 ·subst g0;obtain⟨c3,d2,hd2,hp,u3⟩:=ajG c2;try simp at u3
  refine⟨d2,by omega,?_⟩;rw[ay (b:=kH) (rs:=_) (n:=1) rfl rfl];simp -implicitDefEqProofs [kH,su,qi,nq,ox,oy,qo,oz,qp,qq,sH,qj,sw,sx,sy,ow,qk,ql,sA,qm,sB,sC,sD,sE,qn,sF,sG,hc,u1,u2,u3,cQ,cK,cL]
 by_cases g1:k=1
 ·subst g1;obtain⟨c3,a,a0,a1,u3⟩:=kK c2 20 (by omega) (by omega);obtain⟨c4,n,hn,u4⟩:=HY c3 [1,5,100000] (by simp) (by simp);obtain⟨c5,o,ho,ht,u5⟩:=UB c4 3;have u6:=Jc o (by omega);have u7:=zE n (dA o) (SE o (by omega));have hr:=FW n (dA o);generalize dA o=ot at u6 u7 hr;generalize di n ot=rt at u7 hr;simp at u4;try simp at u5
  try simp at u6
  try simp at u7
  by_cases hp:d.pending.length<16
  ·have u8:=zz d a rt hd ⟨a0,by omega⟩ hp;have o2:=S0 d a rt;generalize (⟨d.cells,d.pending++[⟨a,rt⟩]⟩:aQ)=d2 at u8 o2;try simp at u8
   refine⟨d2,by omega,?_⟩;rw[ay (b:=kH) (rs:=_) (n:=1) rfl rfl];simp -implicitDefEqProofs [kH,su,qi,nq,ox,oy,qo,oz,qp,qq,sH,qj,sw,sx,sy,ow,qk,ql,sA,qm,sB,sC,sD,sE,qn,sF,sG,hc,u1,u2,u3,u4,u5,u6,u7,u8,cQ,cK,cL]
  ·have u8:=Ja d a rt hd (by omega);try simp at u8
   refine⟨d,by omega,?_⟩;rw[ay (b:=kH) (rs:=_) (n:=1) rfl rfl];simp -implicitDefEqProofs [kH,su,qi,nq,ox,oy,qo,oz,qp,qq,sH,qj,sw,sx,sy,ow,qk,ql,sA,qm,sB,sC,sD,sE,qn,sF,sG,hc,u1,u2,u3,u4,u5,u6,u7,u8,cQ,cK,cL]
 by_cases g2:k=2
 ·subst g2;obtain⟨c3,a,a0,a1,u3⟩:=kK c2 20 (by omega) (by omega);obtain⟨c5,b,hb,u5⟩:=UC c3 3;have u6:=I9 b (by omega);have hbl:=Xj b;have u7:=zE 2 (dZ b) (by omega);have hr:=FW 2 (dZ b);generalize dZ b=ot at u6 u7 hr;generalize di 2 ot=rt at u7 hr;try simp at u5
  try simp at u6
  try simp at u7
  by_cases hp:d.pending.length<16
  ·have u8:=zz d a rt hd ⟨a0,by omega⟩ hp;have o2:=S0 d a rt;generalize (⟨d.cells,d.pending++[⟨a,rt⟩]⟩:aQ)=d2 at u8 o2;try simp at u8
   refine⟨d2,by omega,?_⟩;rw[ay (b:=kH) (rs:=_) (n:=1) rfl rfl];simp -implicitDefEqProofs [kH,su,qi,nq,ox,oy,qo,oz,qp,qq,sH,qj,sw,sx,sy,ow,qk,ql,sA,qm,sB,sC,sD,sE,qn,sF,sG,hc,u1,u2,u3,u5,u6,u7,u8,cQ,cK,cL]
  ·have u8:=Ja d a rt hd (by omega);try simp at u8
   refine⟨d,by omega,?_⟩;rw[ay (b:=kH) (rs:=_) (n:=1) rfl rfl];simp -implicitDefEqProofs [kH,su,qi,nq,ox,oy,qo,oz,qp,qq,sH,qj,sw,sx,sy,ow,qk,ql,sA,qm,sB,sC,sD,sE,qn,sF,sG,hc,u1,u2,u3,u5,u6,u7,u8,cQ,cK,cL]
 ·refine⟨d,by omega,?_⟩;rw[ay (b:=kH) (rs:=_) (n:=1) rfl rfl];simp -implicitDefEqProofs [kH,su,qi,nq,ox,oy,qo,oz,qp,qq,sH,qj,sw,sx,sy,ow,qk,ql,sA,qm,sB,sC,sD,sE,qn,sF,sG,hc,u1,u2,g0,g1,g2,cQ,cK,cL]
def VO(S:Sh)(hS:bN S<=1048576)(hh:∀k∈S.ai,fI S.aD k.obj=false):aI (aj (ev LI TT) (aq TT) Bd) [(4,.ptr .own (aH .own S)),(6,.int .i64 0)]=some (.exit 0,[(4,.ptr .own (aH .own S)),(6,.int .i64 S.ai.length),(39,.bool false)]):=by
 have hl:=bE (w:=bK) S.ai;have hw0:bN S=bh S.aG+wL bK S.ai+wL aT S.aD:=rfl
 obtain⟨i,h1,e⟩:=xk (xt:=0) (f:=aj (ev LI TT) (aq TT) Bd)
  (λ(i:Nat)=>[(4,.ptr .own (aH .own S)),(6,.int .i64 i)]) (λi=>S.ai.length - i) (λi=>i<=S.ai.length)
  (λ(_:Nat)=>[(4,.ptr .own (aH .own S)),(6,.int .i64 S.ai.length),(39,.bool false)])
  (λi hi=>by
   by_cases h:i<S.ai.length
   ·right;have hw:=aU i (by omega);have hk:=ajC (w:=bK) h;have u:=OD S.aD (S.ai[i]).obj (by omega) (by show bK _<=_;omega);rw[hh _ (cy h)] at u;try simp at u
    refine⟨i+1,h,by omega,?_⟩;simp -implicitDefEqProofs [Bd,K1,h,hw,u]
   ·left;have:i=S.ai.length:=by omega
    subst this;refine⟨S.ai.length,eC _,?_⟩;simp -implicitDefEqProofs [Bd,K1,])
  0 (oQ _)
 simpa using e
def amH(code:List UInt8)(k:code.length<=9223372036854775807/\∀b∈code,True):∃ps,ev LI TT 6 [.row .sl 1 (code.map eU)]=some (.bool true,ps):=by
 rw[ay (b:=Be) (rs:=[.t 2]) (n:=1) rfl rfl];have h1:=XX code;by_cases hbig:1048576<code.length;·simp -implicitDefEqProofs [Be,h1,hbig]
 obtain⟨d,hd,ps1,u1⟩:=ajF code (by omega);have u3:=OE d (by omega);have u4:=OZ d (by omega);have hw:=Si d;have hwd:=aei d;obtain⟨m1,m2,m3,m4,m5,m6,m7⟩:=ael d;generalize dh d=S at u3 u4 hw hwd m1 m2 m3 m4 m5 m6 m7;have hw0:bN S=bh S.aG+wL bK S.ai+wL aT S.aD:=rfl;have hfw:=wE S.aG;have u5:=OK S (by omega);have u6:=Ya S (by omega);have u7:=VO S (by omega) m3;have u8:=XA S.aG m2;have u9:=OE (bQ S.aG) (by omega);have dI:=Si (bQ S.aG);have v1:=OJ S (by omega);have v2:=OK (dh (bQ S.aG)) (by omega);rw[m1] at v1;rw[m5] at v2;generalize dh (bQ S.aG)=U at u9 v2 m4 m5 m6 m7 dI;generalize bQ S.aG=d2 at u8 u9 dI hfw;generalize oF S=T at u5 u6 v2;try simp at u3
 try simp at u4
 try simp at u5
 try simp at u6
 try simp at u7
 try simp at u8
 try simp at u9
 try simp at v1
 try simp at v2
 simp -implicitDefEqProofs [Be,h1,hbig,u1,u3,u4,u5,u6,u7,u8,u9,v1,v2,eq_true m6,eq_true m7]
end M
