/- What the functions come to in the machine; no conditions. -/
import Derived.Test.YtjijmdiikmeikaaGreatDoorTab
import Derived.Test.YtjijmdiikmeikaaGreatDoorMc
set_option linter.defProp false
set_option linter.unusedSectionVars false
set_option linter.unusedVariables false
set_option linter.unusedSimpArgs false
namespace M
open Go
def U1(l:List ag)(hlen:l.length<=9223372036854775807)(hb:bL bS l)(n:Int)(hn:0<=n)(hm:n<=9223372036854775807):aG (ai (ev LI TT) (aj TT) wN) [(0,.row .af 1 (l.map (eS))),(1,.int .i64 n),(5,.int .i64 0)]=if eZ (λb n=>aB n (wS b)) (l) n<0 then some (.ret,[(4,.int .i64 (-1))]) else some (.exit 0,[(0,.row .af 1 (l.map (eS))),(1,.int .i64 (eZ (λb n=>aB n (wS b)) (l) n)),(5,.int .i64 (l).length),(15,.bool false)]):=by
 refine rJ (f:=ai (ev LI TT) (aj TT) wN) (l) (λi n=>[(0,.row .af 1 (l.map (eS))),(1,.int .i64 n),(5,.int .i64 i)]) (λb n=>aB n (wS b)) _ (λn=>[(0,.row .af 1 (l.map (eS))),(1,.int .i64 n),(5,.int .i64 (l).length),(15,.bool false)]) n hn hm (λb n=>sg _ n) (λi b n hi hl hn hm=>?_) (λn=>?_)
 ·have hw:=aQ i (by first|omega|(simp at hl;omega));obtain⟨_,rfl⟩:=aF.1 hi;have h1:(l[i]).length<=9223372036854775807:=hb.2 _ (bx hl);have h3:=bR n (wS l[i]);have h4:wS l[i]=(l[i]).length:=rfl;obtain⟨m,e1⟩:∃m,m=n - ((l[i]).length:Int):=⟨_,rfl⟩;have h2:IntKind.i64.wrap (n - ((l[i]).length:Int))=m:=by rw[e1];exact bK (by omega) (by omega)
  by_cases h5:m<0
  ·have ef:aB n (wS l[i])=-1:=by omega
   simp -implicitDefEqProofs [wN,E5,hl,hw,h2,h5,ef]
  have ef:aB n (wS l[i])=m:=by omega
  simp -implicitDefEqProofs [wN,E5,hl,hw,h2,h5,ef]
 ·simp -implicitDefEqProofs [wN,E5]
def Ip(l:List ag)(n:Int)(hb:bL bS l)(hn:0<=n)(hm:n<=9223372036854775807):ev LI TT 96 [.row .af 1 (l.map (eS)),.int .i64 n]=some (.int .i64 (aB n (wL wS l)),[.dead,.dead]):=by
 rw[aq (b:=wP) (rs:=[.t 4]) (n:=2) rfl rfl];have hl:=hb.1;have hw:wL wS l=l.length+(l.map wS).sum:=rfl;have ht:=bR n (wL wS l);obtain⟨m,e1⟩:∃m,m=n - (l.length:Int):=⟨_,rfl⟩;have h2:IntKind.i64.wrap (n - (l.length:Int))=m:=by rw[e1];exact bK (by omega) (by omega)
 by_cases h:m<0
 ·have ef:aB n (wL wS l)=-1:=by omega
  simp -implicitDefEqProofs [wP,h2,h,ef]
 have h3:=U1 l hb.1 hb m (by omega) (by omega);rw[qc _ _ _ (by omega)] at h3;have hs:=bR m (l.map wS).sum;obtain⟨q,e2⟩:∃q,q=aB m (l.map wS).sum:=⟨_,rfl⟩;rw[<-e2] at h3 hs;try simp at h3
 by_cases h4:q<0
 ·have ef:aB n (wL wS l)=-1:=by omega
  simp only[h4,cG] at h3;simp -implicitDefEqProofs [wP,h2,h,h3,ef]
 have ef:aB n (wL wS l)=q:=by omega
 simp only[h4,cT] at h3;simp -implicitDefEqProofs [wP,h2,h,h3,ef];all_goals (repeat' split)<;>first|rfl|omega|(simp_all;done)|(simp_all;omega)|skip
def Va(l:List ag)(hlen:l.length<=1048576)(hb:wL wS l<=1048576):aG (ai (ev LI TT) (aj TT) AM) [(0,.row .af 1 (l.map eS)),(3,.row .own 1 (dW (l.map eS) 0 [.str ⟨#[]⟩])),(4,.int .i64 0),(6,.int .i64 l.length)]=some (.exit 0,[(0,.row .af 1 (l.map eS)),(3,.row .own 1 (l.map eS)),(4,.int .i64 (l).length),(6,.int .i64 l.length),(11,.bool false)]):=by
 refine nj (f:=ai (ev LI TT) (aj TT) AM) (l) (λi=>[(0,.row .af 1 (l.map eS)),(3,.row .own 1 (dW (l.map eS) i [.str ⟨#[]⟩])),(4,.int .i64 i),(6,.int .i64 l.length)]) _ (λi b hi hl=>?_) ?_;·have hw:=aQ i (by first|omega|(simp at hl;omega));obtain⟨_,rfl⟩:=aF.1 hi;skip;simp -implicitDefEqProofs [AM,KT,hl,hw];first|done|(rw[iJ _ _ _ _ (by simpa using hl) (by simp)];done)|(simp only[pR];rw[iJ _ _ _ _ (by simpa using hl) (by simp)])
 ·simp -implicitDefEqProofs [AM,KT]
def Iu(l:List ag)(hb:wL wS l<=1048576):ev LI TT 124 [.row .af 1 (l.map eS)]=some (.row .own 1 (l.map eS),[.dead]):=by
 rw[aq (b:=Ft) (rs:=[.t 2]) (n:=1) rfl rfl];have hlen:=bn (w:=wS) l;have h:=Va l (by omega) hb;try simp at h
 simp -implicitDefEqProofs [Ft,h,(by omega:(l.length:Int)*16<=140737488355328)];all_goals (repeat' split)<;>first|rfl|omega|(simp_all;done)|(simp_all;omega)|skip
def US(ps:List (ag×ag))(hb:ps.length<=9223372036854775807)(dQ:∀x∈ps,wS x.1<=1073741824):aG (ai (ev LI TT) (aj TT) Ap) [(0,.row .af 1 (ps.map (λx:ag×ag=>eS x.1))),(1,.row .af 1 (ps.map (λx:ag×ag=>eS x.2))),(5,.int .i64 0)]=if aM cy (ps)=true then some (.exit 0,[(0,.row .af 1 (ps.map (λx:ag×ag=>eS x.1))),(1,.row .af 1 (ps.map (λx:ag×ag=>eS x.2))),(5,.int .i64 ps.length),(14,.bool false)]) else some (.ret,[(4,.bool false)]):=by
 refine cZ (f:=ai (ev LI TT) (aj TT) Ap) (ps) (λi=>[(0,.row .af 1 (ps.map (λx:ag×ag=>eS x.1))),(1,.row .af 1 (ps.map (λx:ag×ag=>eS x.2))),(5,.int .i64 i)]) cy _ _ (λi b hi hl=>?_) ?_;·have hw:=aQ i (by first|omega|(simp at hl;omega));obtain⟨_,rfl⟩:=aF.1 hi;simp -implicitDefEqProofs [Ap,KD,hl,hw,cy];first|done|(split<;>simp_all)
 ·simp -implicitDefEqProofs [Ap,KD]
def Ik(a b:List ag)(hb:wL wS a<=1073741824):ev LI TT 152 [.row .af 1 (a.map eS),.row .af 1 (b.map eS)]=some (.bool (decide (a=b)),[.dead,.dead]):=by
 rw[aq (b:=E3) (rs:=[.t 4]) (n:=2) rfl rfl];simp -implicitDefEqProofs [E3];have hlen:=bn (w:=wS) a;by_cases h:a.length=b.length;·obtain⟨ps,rfl,rfl⟩:=lK h;have h1:=US ps (by simp at hlen;omega) (λx hx=>eO (fu (fK hx)) hb);have h2:=kO ps;simp at h1;rw[<-h2];cases h3:aM cy ps<;>rw[h3] at h1<;>simp[h1,kJ]
 ·have:¬a=b:=λe=>h (by rw[e]);simp[this];omega
def XQ(a:Wr)(n:Int)(hb:vg a)(hn:0<=n)(hm:n<=9223372036854775807):ev LI TT 171 [.agg (eW a),.int .i64 n]=some (.int .i64 (aB n (cl a)),[.dead,.dead]):=by
 rw[aq (b:=AD) (rs:=[.t 4]) (n:=2) rfl rfl];have hw:cl a=a.text.length:=rfl;have ht:=bR n (cl a);have s9:a.text.length<=9223372036854775807:=hb.aeS;obtain⟨m1,e1⟩:∃m,m=n - (a.text.length:Int):=⟨_,rfl⟩;have c1:IntKind.i64.wrap (n - (a.text.length:Int))=m1:=by rw[e1];exact bK (by omega) (by omega)
 by_cases h1:m1<0
 ·have ef:aB n (cl a)=-1:=by omega
  simp -implicitDefEqProofs [AD,c1,h1,ef]
 have ef:aB n (cl a)=m1:=by omega
 simp -implicitDefEqProofs [AD,c1,h1,ef];all_goals (repeat' split)<;>first|rfl|omega|(simp_all;done)|(simp_all;omega)|skip
def X7(a:Wr)(hb:cl a<=1048576):ev LI TT 186 [.agg (eW a)]=some (.agg (eW a),[.dead]):=by rw[aq (b:=Fv) (rs:=[.c 2 2 true 143]) (n:=1) rfl rfl];have hw:cl a=a.text.length:=rfl;simp -implicitDefEqProofs [Fv,hw];all_goals (repeat' split)<;>first|rfl|omega|(simp_all;done)|(simp_all;omega)|skip
def Xy(a b:Wr)(hb:cl a<=1073741824):ev LI TT 208 [.agg (eW a),.agg (eW b)]=some (.bool (decide (a=b)),[.dead,.dead]):=by
 rw[aq (b:=wA) (rs:=[.t 4]) (n:=2) rfl rfl];have hw:cl a=a.text.length:=rfl;rw[Zq];by_cases g1:a.at_=b.at_;rotate_left;·simp -implicitDefEqProofs [wA,eq_false g1]
 by_cases g2:a.text=b.text;rotate_left;·simp -implicitDefEqProofs [wA,eq_true g1,eq_false g2]
 simp -implicitDefEqProofs [wA,eq_true g1,eq_true g2];all_goals (repeat' split)<;>first|rfl|omega|(simp_all;done)|(simp_all;omega)|skip
def U2(l:List Wr)(hlen:l.length<=9223372036854775807)(hb:bL vg l)(n:Int)(hn:0<=n)(hm:n<=9223372036854775807):aG (ai (ev LI TT) (aj TT) AB) [(0,.row .af 2 (l.map (eW))),(1,.int .i64 n),(5,.int .i64 0)]=if eZ (λb n=>aB n (cl b)) (l) n<0 then some (.ret,[(4,.int .i64 (-1))]) else some (.exit 0,[(0,.row .af 2 (l.map (eW))),(1,.int .i64 (eZ (λb n=>aB n (cl b)) (l) n)),(5,.int .i64 (l).length),(15,.bool false)]):=by
 refine rJ (f:=ai (ev LI TT) (aj TT) AB) (l) (λi n=>[(0,.row .af 2 (l.map (eW))),(1,.int .i64 n),(5,.int .i64 i)]) (λb n=>aB n (cl b)) _ (λn=>[(0,.row .af 2 (l.map (eW))),(1,.int .i64 n),(5,.int .i64 (l).length),(15,.bool false)]) n hn hm (λb n=>sg _ n) (λi b n hi hl hn hm=>?_) (λn=>?_)
 ·have hw:=aQ i (by first|omega|(simp at hl;omega));obtain⟨_,rfl⟩:=aF.1 hi;have h2:=XQ l[i] n (hb.2 _ (bx hl)) hn hm;obtain⟨m,e1⟩:∃m,m=aB n (cl l[i]):=⟨_,rfl⟩;rw[<-e1] at h2⊢;try simp at h2
  simp -implicitDefEqProofs [AB,KL,hl,hw,h2]
 ·simp -implicitDefEqProofs [AB,KL]
def XR(l:List Wr)(n:Int)(hb:bL vg l)(hn:0<=n)(hm:n<=9223372036854775807):ev LI TT 97 [.row .af 2 (l.map (eW)),.int .i64 n]=some (.int .i64 (aB n (wL cl l)),[.dead,.dead]):=by
 rw[aq (b:=wQ) (rs:=[.t 4]) (n:=2) rfl rfl];have hl:=hb.1;have hw:wL cl l=l.length+(l.map cl).sum:=rfl;have ht:=bR n (wL cl l);obtain⟨m,e1⟩:∃m,m=n - (l.length:Int):=⟨_,rfl⟩;have h2:IntKind.i64.wrap (n - (l.length:Int))=m:=by rw[e1];exact bK (by omega) (by omega)
 by_cases h:m<0
 ·have ef:aB n (wL cl l)=-1:=by omega
  simp -implicitDefEqProofs [wQ,h2,h,ef]
 have h3:=U2 l hb.1 hb m (by omega) (by omega);rw[qc _ _ _ (by omega)] at h3;have hs:=bR m (l.map cl).sum;obtain⟨q,e2⟩:∃q,q=aB m (l.map cl).sum:=⟨_,rfl⟩;rw[<-e2] at h3 hs;try simp at h3
 by_cases h4:q<0
 ·have ef:aB n (wL cl l)=-1:=by omega
  simp only[h4,cG] at h3;simp -implicitDefEqProofs [wQ,h2,h,h3,ef]
 have ef:aB n (wL cl l)=q:=by omega
 simp only[h4,cT] at h3;simp -implicitDefEqProofs [wQ,h2,h,h3,ef];all_goals (repeat' split)<;>first|rfl|omega|(simp_all;done)|(simp_all;omega)|skip
def Vb(l:List Wr)(hlen:l.length<=1048576)(hb:wL cl l<=1048576):aG (ai (ev LI TT) (aj TT) AN) [(0,.row .af 2 (l.map eW)),(3,.row .own 2 (dW (l.map eW) 0 [.int .i64 0,.str ⟨#[]⟩])),(4,.int .i64 0),(6,.int .i64 l.length)]=some (.exit 0,[(0,.row .af 2 (l.map eW)),(3,.row .own 2 (l.map eW)),(4,.int .i64 (l).length),(6,.int .i64 l.length),(11,.bool false)]):=by
 refine nj (f:=ai (ev LI TT) (aj TT) AN) (l) (λi=>[(0,.row .af 2 (l.map eW)),(3,.row .own 2 (dW (l.map eW) i [.int .i64 0,.str ⟨#[]⟩])),(4,.int .i64 i),(6,.int .i64 l.length)]) _ (λi b hi hl=>?_) ?_
 ·have hw:=aQ i (by first|omega|(simp at hl;omega));obtain⟨_,rfl⟩:=aF.1 hi;have h:=X7 l[i] (eO (fu (bx hl)) hb);try simp at h
  simp -implicitDefEqProofs [AN,KU,hl,hw,h];first|done|(rw[iJ _ _ _ _ (by simpa using hl) (by simp)];done)|(simp only[pR];rw[iJ _ _ _ _ (by simpa using hl) (by simp)])
 ·simp -implicitDefEqProofs [AN,KU]
def X8(l:List Wr)(hb:wL cl l<=1048576):ev LI TT 125 [.row .af 2 (l.map eW)]=some (.row .own 2 (l.map eW),[.dead]):=by
 rw[aq (b:=Fu) (rs:=[.t 2]) (n:=1) rfl rfl];have hlen:=bn (w:=cl) l;have h:=Vb l (by omega) hb;try simp at h
 simp -implicitDefEqProofs [Fu,h,(by omega:(l.length:Int)*24<=140737488355328)];all_goals (repeat' split)<;>first|rfl|omega|(simp_all;done)|(simp_all;omega)|skip
def UT(ps:List (Wr×Wr))(hb:ps.length<=9223372036854775807)(dQ:∀x∈ps,cl x.1<=1073741824):aG (ai (ev LI TT) (aj TT) Aq) [(0,.row .af 2 (ps.map (λx:Wr×Wr=>eW x.1))),(1,.row .af 2 (ps.map (λx:Wr×Wr=>eW x.2))),(5,.int .i64 0)]=if aM cy (ps)=true then some (.exit 0,[(0,.row .af 2 (ps.map (λx:Wr×Wr=>eW x.1))),(1,.row .af 2 (ps.map (λx:Wr×Wr=>eW x.2))),(5,.int .i64 ps.length),(14,.bool false)]) else some (.ret,[(4,.bool false)]):=by
 refine cZ (f:=ai (ev LI TT) (aj TT) Aq) (ps) (λi=>[(0,.row .af 2 (ps.map (λx:Wr×Wr=>eW x.1))),(1,.row .af 2 (ps.map (λx:Wr×Wr=>eW x.2))),(5,.int .i64 i)]) cy _ _ (λi b hi hl=>?_) ?_
 ·have hw:=aQ i (by first|omega|(simp at hl;omega));obtain⟨_,rfl⟩:=aF.1 hi;have h:=Xy (ps[i]).1 (ps[i]).2 (dQ _ (bx hl));try simp at h
  simp -implicitDefEqProofs [Aq,KE,hl,hw,cy,h]
 ·simp -implicitDefEqProofs [Aq,KE]
def Xz(a b:List Wr)(hb:wL cl a<=1073741824):ev LI TT 153 [.row .af 2 (a.map eW),.row .af 2 (b.map eW)]=some (.bool (decide (a=b)),[.dead,.dead]):=by
 rw[aq (b:=E4) (rs:=[.t 4]) (n:=2) rfl rfl];simp -implicitDefEqProofs [E4];have hlen:=bn (w:=cl) a;by_cases h:a.length=b.length;·obtain⟨ps,rfl,rfl⟩:=lK h;have h1:=UT ps (by simp at hlen;omega) (λx hx=>eO (fu (fK hx)) hb);have h2:=kO ps;simp at h1;rw[<-h2];cases h3:aM cy ps<;>rw[h3] at h1<;>simp[h1,kJ]
 ·have:¬a=b:=λe=>h (by rw[e]);simp[this];omega
def XD(a:bg)(n:Int)(hb:HV a)(hn:0<=n)(hm:n<=9223372036854775807):ev LI TT 40 [.agg ((bT .af) a),.int .i64 n]=some (.int .i64 (aB n (cv a)),[.dead,.dead]):=by
 rw[aq (b:=wD) (rs:=[.t 4]) (n:=2) rfl rfl];have hw:cv a=wL wS a.cells+wL cl a.pending:=rfl;have ht:=bR n (cv a);have c1:=Ip a.cells n hb.aeF (by omega) (by omega);have s1:=bR n (wL wS a.cells);obtain⟨m1,e1⟩:∃m,m=aB n (wL wS a.cells):=⟨_,rfl⟩;rw[<-e1] at c1 s1;try simp at c1
 by_cases h1:m1<0
 ·have ef:aB n (cv a)=-1:=by omega
  simp -implicitDefEqProofs [wD,c1,h1,ef]
 have c2:=XR a.pending m1 hb.aeN (by omega) (by omega);have s2:=bR m1 (wL cl a.pending);obtain⟨m2,e2⟩:∃m,m=aB m1 (wL cl a.pending):=⟨_,rfl⟩;rw[<-e2] at c2 s2;try simp at c2
 by_cases h2:m2<0
 ·have ef:aB n (cv a)=-1:=by omega
  simp -implicitDefEqProofs [wD,c1,h1,c2,h2,ef]
 have ef:aB n (cv a)=m2:=by omega
 simp -implicitDefEqProofs [wD,c1,h1,c2,h2,ef];all_goals (repeat' split)<;>first|rfl|omega|(simp_all;done)|(simp_all;omega)|skip
def XV(a:bg)(hb:cv a<=1048576):ev LI TT 65 [.agg ((bT .af) a)]=some (.agg ((bT .own) a),[.dead]):=by
 rw[aq (b:=E9) (rs:=[.c 2 2 true 39]) (n:=1) rfl rfl];have hw:cv a=wL wS a.cells+wL cl a.pending:=rfl;have h1:=Iu a.cells (by omega);try simp at h1
 have h2:=X8 a.pending (by omega);try simp at h2
 simp -implicitDefEqProofs [E9,h1,h2,hw];all_goals (repeat' split)<;>first|rfl|omega|(simp_all;done)|(simp_all;omega)|skip
def Xm(a b:bg)(hb:cv a<=1073741824):ev LI TT 86 [.agg ((bT .af) a),.agg ((bT .af) b)]=some (.bool (decide (a=b)),[.dead,.dead]):=by
 rw[aq (b:=wv) (rs:=[.t 4]) (n:=2) rfl rfl];have hw:cv a=wL wS a.cells+wL cl a.pending:=rfl;rw[Zg];have c1:=Ik a.cells b.cells (by omega);cases g1:decide (a.cells=b.cells)
 ·rw[g1] at c1;try simp at c1
  simp -implicitDefEqProofs [wv,c1]
 rw[g1] at c1;try simp at c1
 have c2:=Xz a.pending b.pending (by omega);cases g2:decide (a.pending=b.pending)
 ·rw[g2] at c2;try simp at c2
  simp -implicitDefEqProofs [wv,c1,c2]
 rw[g2] at c2;try simp at c2
 simp -implicitDefEqProofs [wv,c1,c2];all_goals (repeat' split)<;>first|rfl|omega|(simp_all;done)|(simp_all;omega)|skip
def XE(a:aJ)(n:Int)(hb:qy a)(hn:0<=n)(hm:n<=9223372036854775807):ev LI TT 230 [.agg (aK a),.int .i64 n]=some (.int .i64 (aB n (aN a)),[.dead,.dead]):=by
 rw[aq (b:=wF) (rs:=[.t 4]) (n:=2) rfl rfl];have hw:aN a=a.name.length+a.value.length:=rfl;have ht:=bR n (aN a);have s9:a.name.length<=9223372036854775807:=hb.aeJ;obtain⟨m1,e1⟩:∃m,m=n - (a.name.length:Int):=⟨_,rfl⟩;have c1:IntKind.i64.wrap (n - (a.name.length:Int))=m1:=by rw[e1];exact bK (by omega) (by omega)
 by_cases h1:m1<0
 ·have ef:aB n (aN a)=-1:=by omega
  simp -implicitDefEqProofs [wF,c1,h1,ef]
 have mR:a.value.length<=9223372036854775807:=hb.aeT;obtain⟨m2,e2⟩:∃m,m=m1 - (a.value.length:Int):=⟨_,rfl⟩;have c2:IntKind.i64.wrap (m1 - (a.value.length:Int))=m2:=by rw[e2];exact bK (by omega) (by omega)
 by_cases h2:m2<0
 ·have ef:aB n (aN a)=-1:=by omega
  simp -implicitDefEqProofs [wF,c1,h1,c2,h2,ef]
 have ef:aB n (aN a)=m2:=by omega
 simp -implicitDefEqProofs [wF,c1,h1,c2,h2,ef];all_goals (repeat' split)<;>first|rfl|omega|(simp_all;done)|(simp_all;omega)|skip
def XW(a:aJ)(hb:aN a<=1048576):ev LI TT 232 [.agg (aK a)]=some (.agg (aK a),[.dead]):=by rw[aq (b:=Fb) (rs:=[.c 2 2 true 216]) (n:=1) rfl rfl];have hw:aN a=a.name.length+a.value.length:=rfl;simp -implicitDefEqProofs [Fb,hw];all_goals (repeat' split)<;>first|rfl|omega|(simp_all;done)|(simp_all;omega)|skip
def Xn(a b:aJ)(hb:aN a<=1073741824):ev LI TT 247 [.agg (aK a),.agg (aK b)]=some (.bool (decide (a=b)),[.dead,.dead]):=by
 rw[aq (b:=wz) (rs:=[.t 4]) (n:=2) rfl rfl];have hw:aN a=a.name.length+a.value.length:=rfl;rw[Zi];by_cases g1:a.name=b.name;rotate_left;·simp -implicitDefEqProofs [wz,eq_false g1]
 by_cases g2:a.value=b.value;rotate_left;·simp -implicitDefEqProofs [wz,eq_true g1,eq_false g2]
 simp -implicitDefEqProofs [wz,eq_true g1,eq_true g2];all_goals (repeat' split)<;>first|rfl|omega|(simp_all;done)|(simp_all;omega)|skip
def UW(l:List aJ)(hlen:l.length<=9223372036854775807)(hb:bL qy l)(n:Int)(hn:0<=n)(hm:n<=9223372036854775807):aG (ai (ev LI TT) (aj TT) As) [(0,.row .af 2 (l.map (aK))),(1,.int .i64 n),(5,.int .i64 0)]=if eZ (λb n=>aB n (aN b)) (l) n<0 then some (.ret,[(4,.int .i64 (-1))]) else some (.exit 0,[(0,.row .af 2 (l.map (aK))),(1,.int .i64 (eZ (λb n=>aB n (aN b)) (l) n)),(5,.int .i64 (l).length),(15,.bool false)]):=by
 refine rJ (f:=ai (ev LI TT) (aj TT) As) (l) (λi n=>[(0,.row .af 2 (l.map (aK))),(1,.int .i64 n),(5,.int .i64 i)]) (λb n=>aB n (aN b)) _ (λn=>[(0,.row .af 2 (l.map (aK))),(1,.int .i64 n),(5,.int .i64 (l).length),(15,.bool false)]) n hn hm (λb n=>sg _ n) (λi b n hi hl hn hm=>?_) (λn=>?_)
 ·have hw:=aQ i (by first|omega|(simp at hl;omega));obtain⟨_,rfl⟩:=aF.1 hi;have h2:=XE l[i] n (hb.2 _ (bx hl)) hn hm;obtain⟨m,e1⟩:∃m,m=aB n (aN l[i]):=⟨_,rfl⟩;rw[<-e1] at h2⊢;try simp at h2
  simp -implicitDefEqProofs [As,KG,hl,hw,h2]
 ·simp -implicitDefEqProofs [As,KG]
def Od(l:List aJ)(n:Int)(hb:bL qy l)(hn:0<=n)(hm:n<=9223372036854775807):ev LI TT 172 [.row .af 2 (l.map (aK)),.int .i64 n]=some (.int .i64 (aB n (wL aN l)),[.dead,.dead]):=by
 rw[aq (b:=wE) (rs:=[.t 4]) (n:=2) rfl rfl];have hl:=hb.1;have hw:wL aN l=l.length+(l.map aN).sum:=rfl;have ht:=bR n (wL aN l);obtain⟨m,e1⟩:∃m,m=n - (l.length:Int):=⟨_,rfl⟩;have h2:IntKind.i64.wrap (n - (l.length:Int))=m:=by rw[e1];exact bK (by omega) (by omega)
 by_cases h:m<0
 ·have ef:aB n (wL aN l)=-1:=by omega
  simp -implicitDefEqProofs [wE,h2,h,ef]
 have h3:=UW l hb.1 hb m (by omega) (by omega);rw[qc _ _ _ (by omega)] at h3;have hs:=bR m (l.map aN).sum;obtain⟨q,e2⟩:∃q,q=aB m (l.map aN).sum:=⟨_,rfl⟩;rw[<-e2] at h3 hs;try simp at h3
 by_cases h4:q<0
 ·have ef:aB n (wL aN l)=-1:=by omega
  simp only[h4,cG] at h3;simp -implicitDefEqProofs [wE,h2,h,h3,ef]
 have ef:aB n (wL aN l)=q:=by omega
 simp only[h4,cT] at h3;simp -implicitDefEqProofs [wE,h2,h,h3,ef];all_goals (repeat' split)<;>first|rfl|omega|(simp_all;done)|(simp_all;omega)|skip
def U4(l:List aJ)(hlen:l.length<=1048576)(hb:wL aN l<=1048576):aG (ai (ev LI TT) (aj TT) AF) [(0,.row .af 2 (l.map aK)),(3,.row .own 2 (dW (l.map aK) 0 [.str ⟨#[]⟩,.str ⟨#[]⟩])),(4,.int .i64 0),(6,.int .i64 l.length)]=some (.exit 0,[(0,.row .af 2 (l.map aK)),(3,.row .own 2 (l.map aK)),(4,.int .i64 (l).length),(6,.int .i64 l.length),(11,.bool false)]):=by
 refine nj (f:=ai (ev LI TT) (aj TT) AF) (l) (λi=>[(0,.row .af 2 (l.map aK)),(3,.row .own 2 (dW (l.map aK) i [.str ⟨#[]⟩,.str ⟨#[]⟩])),(4,.int .i64 i),(6,.int .i64 l.length)]) _ (λi b hi hl=>?_) ?_
 ·have hw:=aQ i (by first|omega|(simp at hl;omega));obtain⟨_,rfl⟩:=aF.1 hi;have h:=XW l[i] (eO (fu (bx hl)) hb);try simp at h
  simp -implicitDefEqProofs [AF,KN,hl,hw,h];first|done|(rw[iJ _ _ _ _ (by simpa using hl) (by simp)];done)|(simp only[pR];rw[iJ _ _ _ _ (by simpa using hl) (by simp)])
 ·simp -implicitDefEqProofs [AF,KN]
def Oe(l:List aJ)(hb:wL aN l<=1048576):ev LI TT 187 [.row .af 2 (l.map aK)]=some (.row .own 2 (l.map aK),[.dead]):=by
 rw[aq (b:=Fa) (rs:=[.t 2]) (n:=1) rfl rfl];have hlen:=bn (w:=aN) l;have h:=U4 l (by omega) hb;try simp at h
 simp -implicitDefEqProofs [Fa,h,(by omega:(l.length:Int)*32<=140737488355328)];all_goals (repeat' split)<;>first|rfl|omega|(simp_all;done)|(simp_all;omega)|skip
def UM(ps:List (aJ×aJ))(hb:ps.length<=9223372036854775807)(dQ:∀x∈ps,aN x.1<=1073741824):aG (ai (ev LI TT) (aj TT) Aj) [(0,.row .af 2 (ps.map (λx:aJ×aJ=>aK x.1))),(1,.row .af 2 (ps.map (λx:aJ×aJ=>aK x.2))),(5,.int .i64 0)]=if aM cy (ps)=true then some (.exit 0,[(0,.row .af 2 (ps.map (λx:aJ×aJ=>aK x.1))),(1,.row .af 2 (ps.map (λx:aJ×aJ=>aK x.2))),(5,.int .i64 ps.length),(14,.bool false)]) else some (.ret,[(4,.bool false)]):=by
 refine cZ (f:=ai (ev LI TT) (aj TT) Aj) (ps) (λi=>[(0,.row .af 2 (ps.map (λx:aJ×aJ=>aK x.1))),(1,.row .af 2 (ps.map (λx:aJ×aJ=>aK x.2))),(5,.int .i64 i)]) cy _ _ (λi b hi hl=>?_) ?_
 ·have hw:=aQ i (by first|omega|(simp at hl;omega));obtain⟨_,rfl⟩:=aF.1 hi;have h:=Xn (ps[i]).1 (ps[i]).2 (dQ _ (bx hl));try simp at h
  simp -implicitDefEqProofs [Aj,Kw,hl,hw,cy,h]
 ·simp -implicitDefEqProofs [Aj,Kw]
def Oc(a b:List aJ)(hb:wL aN a<=1073741824):ev LI TT 209 [.row .af 2 (a.map aK),.row .af 2 (b.map aK)]=some (.bool (decide (a=b)),[.dead,.dead]):=by
 rw[aq (b:=EX) (rs:=[.t 4]) (n:=2) rfl rfl];simp -implicitDefEqProofs [EX];have hlen:=bn (w:=aN) a;by_cases h:a.length=b.length;·obtain⟨ps,rfl,rfl⟩:=lK h;have h1:=UM ps (by simp at hlen;omega) (λx hx=>eO (fu (fK hx)) hb);have h2:=kO ps;simp at h1;rw[<-h2];cases h3:aM cy ps<;>rw[h3] at h1<;>simp[h1,kJ]
 ·have:¬a=b:=λe=>h (by rw[e]);simp[this];omega
def Io(a:cg)(n:Int)(hb:ve a)(hn:0<=n)(hm:n<=9223372036854775807):ev LI TT 103 [.agg ((iI .af) a),.int .i64 n]=some (.int .i64 (aB n (bC a)),[.dead,.dead]):=by
 rw[aq (b:=wJ) (rs:=[.t 4]) (n:=2) rfl rfl];have hw:bC a=wL aN a.fields+a.body.length:=rfl;have ht:=bR n (bC a);have c1:=Od a.fields n hb.Kn (by omega) (by omega);have s1:=bR n (wL aN a.fields);obtain⟨m1,e1⟩:∃m,m=aB n (wL aN a.fields):=⟨_,rfl⟩;rw[<-e1] at c1 s1;try simp at c1
 by_cases h1:m1<0
 ·have ef:aB n (bC a)=-1:=by omega
  simp -implicitDefEqProofs [wJ,c1,h1,ef]
 have mR:a.body.length<=9223372036854775807:=hb.Km;obtain⟨m2,e2⟩:∃m,m=m1 - (a.body.length:Int):=⟨_,rfl⟩;have c2:IntKind.i64.wrap (m1 - (a.body.length:Int))=m2:=by rw[e2];exact bK (by omega) (by omega)
 by_cases h2:m2<0
 ·have ef:aB n (bC a)=-1:=by omega
  simp -implicitDefEqProofs [wJ,c1,h1,c2,h2,ef]
 have ef:aB n (bC a)=m2:=by omega
 simp -implicitDefEqProofs [wJ,c1,h1,c2,h2,ef];all_goals (repeat' split)<;>first|rfl|omega|(simp_all;done)|(simp_all;omega)|skip
def Is(a:cg)(hb:bC a<=1048576):ev LI TT 131 [.agg ((iI .af) a)]=some (.agg ((iI .own) a),[.dead]):=by
 rw[aq (b:=Fo) (rs:=[.c 2 3 true 61]) (n:=1) rfl rfl];have hw:bC a=wL aN a.fields+a.body.length:=rfl;have h1:=Oe a.fields (by omega);try simp at h1
 simp -implicitDefEqProofs [Fo,h1,hw];all_goals (repeat' split)<;>first|rfl|omega|(simp_all;done)|(simp_all;omega)|skip
def Ij(a b:cg)(hb:bC a<=1073741824):ev LI TT 159 [.agg ((iI .af) a),.agg ((iI .af) b)]=some (.bool (decide (a=b)),[.dead,.dead]):=by
 rw[aq (b:=tO) (rs:=[.t 4]) (n:=2) rfl rfl];have hw:bC a=wL aN a.fields+a.body.length:=rfl;rw[Zn];by_cases g1:a.status=b.status;rotate_left;·simp -implicitDefEqProofs [tO,eq_false g1]
 have c2:=Oc a.fields b.fields (by omega);cases g2:decide (a.fields=b.fields)
 ·rw[g2] at c2;try simp at c2
  simp -implicitDefEqProofs [tO,eq_true g1,c2]
 rw[g2] at c2;try simp at c2
 by_cases g3:a.body=b.body;rotate_left;·simp -implicitDefEqProofs [tO,eq_true g1,c2,eq_false g3]
 simp -implicitDefEqProofs [tO,eq_true g1,c2,eq_true g3];all_goals (repeat' split)<;>first|rfl|omega|(simp_all;done)|(simp_all;omega)|skip
def Il(a:Ob)(n:Int)(hb:yC a)(hn:0<=n)(hm:n<=9223372036854775807):ev LI TT 102 [.agg ((bA .af) a),.int .i64 n]=some (.int .i64 (aB n (aZ a)),[.dead,.dead]):=by
 rw[aq (b:=rH) (rs:=[.t 4]) (n:=2) rfl rfl];have hw:aZ a=a.path.length+wL wS a.names+wL wS a.values+bC a.resp:=rfl;have ht:=bR n (aZ a);have s9:a.path.length<=9223372036854775807:=hb.Kq;obtain⟨m1,e1⟩:∃m,m=n - (a.path.length:Int):=⟨_,rfl⟩;have c1:IntKind.i64.wrap (n - (a.path.length:Int))=m1:=by rw[e1];exact bK (by omega) (by omega)
 by_cases h1:m1<0
 ·have ef:aB n (aZ a)=-1:=by omega
  simp -implicitDefEqProofs [rH,c1,h1,ef]
 have c2:=Ip a.names m1 hb.aeK (by omega) (by omega);have s2:=bR m1 (wL wS a.names);obtain⟨m2,e2⟩:∃m,m=aB m1 (wL wS a.names):=⟨_,rfl⟩;rw[<-e2] at c2 s2;try simp at c2
 by_cases h2:m2<0
 ·have ef:aB n (aZ a)=-1:=by omega
  simp -implicitDefEqProofs [rH,c1,h1,c2,h2,ef]
 have c3:=Ip a.values m2 hb.aeU (by omega) (by omega);have s3:=bR m2 (wL wS a.values);obtain⟨m3,e3⟩:∃m,m=aB m2 (wL wS a.values):=⟨_,rfl⟩;rw[<-e3] at c3 s3;try simp at c3
 by_cases h3:m3<0
 ·have ef:aB n (aZ a)=-1:=by omega
  simp -implicitDefEqProofs [rH,c1,h1,c2,h2,c3,h3,ef]
 have c4:=Io a.resp m3 hb.wo (by omega) (by omega);have s4:=bR m3 (bC a.resp);obtain⟨m4,e4⟩:∃m,m=aB m3 (bC a.resp):=⟨_,rfl⟩;rw[<-e4] at c4 s4;try simp at c4
 by_cases h4:m4<0
 ·have ef:aB n (aZ a)=-1:=by omega
  simp -implicitDefEqProofs [rH,c1,h1,c2,h2,c3,h3,c4,h4,ef]
 have ef:aB n (aZ a)=m4:=by omega
 simp -implicitDefEqProofs [rH,c1,h1,c2,h2,c3,h3,c4,h4,ef];all_goals (repeat' split)<;>first|rfl|omega|(simp_all;done)|(simp_all;omega)|skip
def Iq(a:Ob)(hb:aZ a<=1048576):ev LI TT 130 [.agg ((bA .af) a)]=some (.agg ((bA .own) a),[.dead]):=by
 rw[aq (b:=Fi) (rs:=[.c 2 7 true 63]) (n:=1) rfl rfl];have hw:aZ a=a.path.length+wL wS a.names+wL wS a.values+bC a.resp:=rfl;have h1:=Iu a.names (by omega);try simp at h1
 have h2:=Iu a.values (by omega);try simp at h2
 have h3:=Is a.resp (by omega);try simp at h3
 simp -implicitDefEqProofs [Fi,h1,h2,h3,hw];all_goals (repeat' split)<;>first|rfl|omega|(simp_all;done)|(simp_all;omega)|skip
def Ih(a b:Ob)(hb:aZ a<=1073741824):ev LI TT 158 [.agg ((bA .af) a),.agg ((bA .af) b)]=some (.bool (decide (a=b)),[.dead,.dead]):=by
 rw[aq (b:=pN) (rs:=[.t 4]) (n:=2) rfl rfl];have hw:aZ a=a.path.length+wL wS a.names+wL wS a.values+bC a.resp:=rfl;rw[Zk];by_cases g1:a.path=b.path;rotate_left;·simp -implicitDefEqProofs [pN,eq_false g1]
 have c2:=Ik a.names b.names (by omega);cases g2:decide (a.names=b.names)
 ·rw[g2] at c2;try simp at c2
  simp -implicitDefEqProofs [pN,eq_true g1,c2]
 rw[g2] at c2;try simp at c2
 have c3:=Ik a.values b.values (by omega);cases g3:decide (a.values=b.values)
 ·rw[g3] at c3;try simp at c3
  simp -implicitDefEqProofs [pN,eq_true g1,c2,c3]
 rw[g3] at c3;try simp at c3
 have c4:=Ij a.resp b.resp (by omega);cases g4:decide (a.resp=b.resp)
 ·rw[g4] at c4;try simp at c4
  simp -implicitDefEqProofs [pN,eq_true g1,c2,c3,c4]
 rw[g4] at c4;try simp at c4
 by_cases g5:a.t=b.t;rotate_left;·simp -implicitDefEqProofs [pN,eq_true g1,c2,c3,c4,eq_false g5]
 simp -implicitDefEqProofs [pN,eq_true g1,c2,c3,c4,eq_true g5];all_goals (repeat' split)<;>first|rfl|omega|(simp_all;done)|(simp_all;omega)|skip
def XI(a:Kp)(n:Int)(hb:u0 a)(hn:0<=n)(hm:n<=9223372036854775807):ev LI TT 98 [.agg ((aE .af) a),.int .i64 n]=some (.int .i64 (aB n (bP a)),[.dead,.dead]):=by
 rw[aq (b:=Ay) (rs:=[.t 4]) (n:=2) rfl rfl];have hw:bP a=aZ a.obj:=rfl;have ht:=bR n (bP a);have c1:=Il a.obj n hb.Ko (by omega) (by omega);have s1:=bR n (aZ a.obj);obtain⟨m1,e1⟩:∃m,m=aB n (aZ a.obj):=⟨_,rfl⟩;rw[<-e1] at c1 s1;try simp at c1
 by_cases h1:m1<0
 ·have ef:aB n (bP a)=-1:=by omega
  simp -implicitDefEqProofs [Ay,c1,h1,ef]
 have ef:aB n (bP a)=m1:=by omega
 simp -implicitDefEqProofs [Ay,c1,h1,ef];all_goals (repeat' split)<;>first|rfl|omega|(simp_all;done)|(simp_all;omega)|skip
def X0(a:Kp)(hb:bP a<=1048576):ev LI TT 126 [.agg ((aE .af) a)]=some (.agg ((aE .own) a),[.dead]):=by
 rw[aq (b:=Fh) (rs:=[.c 2 9 true 65]) (n:=1) rfl rfl];have hw:bP a=aZ a.obj:=rfl;have h1:=Iq a.obj (by omega);try simp at h1
 simp -implicitDefEqProofs [Fh,h1,hw];all_goals (repeat' split)<;>first|rfl|omega|(simp_all;done)|(simp_all;omega)|skip
def Xr(a b:Kp)(hb:bP a<=1073741824):ev LI TT 154 [.agg ((aE .af) a),.agg ((aE .af) b)]=some (.bool (decide (a=b)),[.dead,.dead]):=by
 rw[aq (b:=tN) (rs:=[.t 4]) (n:=2) rfl rfl];have hw:bP a=aZ a.obj:=rfl;rw[Zj];have c1:=Ih a.obj b.obj (by omega);cases g1:decide (a.obj=b.obj)
 ·rw[g1] at c1;try simp at c1
  simp -implicitDefEqProofs [tN,c1]
 rw[g1] at c1;try simp at c1
 by_cases g2:a.at_=b.at_;rotate_left;·simp -implicitDefEqProofs [tN,c1,eq_false g2]
 by_cases g3:a.seq=b.seq;rotate_left;·simp -implicitDefEqProofs [tN,c1,eq_true g2,eq_false g3]
 simp -implicitDefEqProofs [tN,c1,eq_true g2,eq_true g3];all_goals (repeat' split)<;>first|rfl|omega|(simp_all;done)|(simp_all;omega)|skip
def UY(l:List Kp)(hlen:l.length<=9223372036854775807)(hb:bL u0 l)(n:Int)(hn:0<=n)(hm:n<=9223372036854775807):aG (ai (ev LI TT) (aj TT) Aw) [(0,.row .af 9 (l.map (aE .af))),(1,.int .i64 n),(5,.int .i64 0)]=if eZ (λb n=>aB n (bP b)) (l) n<0 then some (.ret,[(4,.int .i64 (-1))]) else some (.exit 0,[(0,.row .af 9 (l.map (aE .af))),(1,.int .i64 (eZ (λb n=>aB n (bP b)) (l) n)),(5,.int .i64 (l).length),(15,.bool false)]):=by
 refine rJ (f:=ai (ev LI TT) (aj TT) Aw) (l) (λi n=>[(0,.row .af 9 (l.map (aE .af))),(1,.int .i64 n),(5,.int .i64 i)]) (λb n=>aB n (bP b)) _ (λn=>[(0,.row .af 9 (l.map (aE .af))),(1,.int .i64 n),(5,.int .i64 (l).length),(15,.bool false)]) n hn hm (λb n=>sg _ n) (λi b n hi hl hn hm=>?_) (λn=>?_)
 ·have hw:=aQ i (by first|omega|(simp at hl;omega));obtain⟨_,rfl⟩:=aF.1 hi;have h2:=XI l[i] n (hb.2 _ (bx hl)) hn hm;obtain⟨m,e1⟩:∃m,m=aB n (bP l[i]):=⟨_,rfl⟩;rw[<-e1] at h2⊢;try simp at h2
  simp -implicitDefEqProofs [Aw,KI,hl,hw,h2]
 ·simp -implicitDefEqProofs [Aw,KI]
def XJ(l:List Kp)(n:Int)(hb:bL u0 l)(hn:0<=n)(hm:n<=9223372036854775807):ev LI TT 41 [.row .af 9 (l.map (aE .af)),.int .i64 n]=some (.int .i64 (aB n (wL bP l)),[.dead,.dead]):=by
 rw[aq (b:=wH) (rs:=[.t 4]) (n:=2) rfl rfl];have hl:=hb.1;have hw:wL bP l=l.length+(l.map bP).sum:=rfl;have ht:=bR n (wL bP l);obtain⟨m,e1⟩:∃m,m=n - (l.length:Int):=⟨_,rfl⟩;have h2:IntKind.i64.wrap (n - (l.length:Int))=m:=by rw[e1];exact bK (by omega) (by omega)
 by_cases h:m<0
 ·have ef:aB n (wL bP l)=-1:=by omega
  simp -implicitDefEqProofs [wH,h2,h,ef]
 have h3:=UY l hb.1 hb m (by omega) (by omega);rw[qc _ _ _ (by omega)] at h3;have hs:=bR m (l.map bP).sum;obtain⟨q,e2⟩:∃q,q=aB m (l.map bP).sum:=⟨_,rfl⟩;rw[<-e2] at h3 hs;try simp at h3
 by_cases h4:q<0
 ·have ef:aB n (wL bP l)=-1:=by omega
  simp only[h4,cG] at h3;simp -implicitDefEqProofs [wH,h2,h,h3,ef]
 have ef:aB n (wL bP l)=q:=by omega
 simp only[h4,cT] at h3;simp -implicitDefEqProofs [wH,h2,h,h3,ef];all_goals (repeat' split)<;>first|rfl|omega|(simp_all;done)|(simp_all;omega)|skip
def U7(l:List Kp)(hlen:l.length<=1048576)(hb:wL bP l<=1048576):aG (ai (ev LI TT) (aj TT) AJ) [(0,.row .af 9 (l.map (aE .af))),(3,.row .own 9 (dW (l.map (aE .own)) 0 [.str ⟨#[]⟩,.row .own 1 [],.row .own 1 [],.int .i64 0,.row .own 2 [],.str ⟨#[]⟩,.int .i64 0,.int .i64 0,.int .i64 0])),(4,.int .i64 0),(6,.int .i64 l.length)]=some (.exit 0,[(0,.row .af 9 (l.map (aE .af))),(3,.row .own 9 (l.map (aE .own))),(4,.int .i64 (l).length),(6,.int .i64 l.length),(11,.bool false)]):=by
 refine nj (f:=ai (ev LI TT) (aj TT) AJ) (l) (λi=>[(0,.row .af 9 (l.map (aE .af))),(3,.row .own 9 (dW (l.map (aE .own)) i [.str ⟨#[]⟩,.row .own 1 [],.row .own 1 [],.int .i64 0,.row .own 2 [],.str ⟨#[]⟩,.int .i64 0,.int .i64 0,.int .i64 0])),(4,.int .i64 i),(6,.int .i64 l.length)]) _ (λi b hi hl=>?_) ?_
 ·have hw:=aQ i (by first|omega|(simp at hl;omega));obtain⟨_,rfl⟩:=aF.1 hi;have h:=X0 l[i] (eO (fu (bx hl)) hb);try simp at h
  simp -implicitDefEqProofs [AJ,KQ,hl,hw,h];first|done|(rw[iJ _ _ _ _ (by simpa using hl) (by simp)];done)|(simp only[pR];rw[iJ _ _ _ _ (by simpa using hl) (by simp)])
 ·simp -implicitDefEqProofs [AJ,KQ]
def X1(l:List Kp)(hb:wL bP l<=1048576):ev LI TT 66 [.row .af 9 (l.map (aE .af))]=some (.row .own 9 (l.map (aE .own)),[.dead]):=by
 rw[aq (b:=Fg) (rs:=[.t 2]) (n:=1) rfl rfl];have hlen:=bn (w:=bP) l;have h:=U7 l (by omega) hb;try simp at h
 simp -implicitDefEqProofs [Fg,h,(by omega:(l.length:Int)*136<=140737488355328)];all_goals (repeat' split)<;>first|rfl|omega|(simp_all;done)|(simp_all;omega)|skip
def UP(ps:List (Kp×Kp))(hb:ps.length<=9223372036854775807)(dQ:∀x∈ps,bP x.1<=1073741824):aG (ai (ev LI TT) (aj TT) Am) [(0,.row .af 9 (ps.map (λx:Kp×Kp=>(aE .af) x.1))),(1,.row .af 9 (ps.map (λx:Kp×Kp=>(aE .af) x.2))),(5,.int .i64 0)]=if aM cy (ps)=true then some (.exit 0,[(0,.row .af 9 (ps.map (λx:Kp×Kp=>(aE .af) x.1))),(1,.row .af 9 (ps.map (λx:Kp×Kp=>(aE .af) x.2))),(5,.int .i64 ps.length),(14,.bool false)]) else some (.ret,[(4,.bool false)]):=by
 refine cZ (f:=ai (ev LI TT) (aj TT) Am) (ps) (λi=>[(0,.row .af 9 (ps.map (λx:Kp×Kp=>(aE .af) x.1))),(1,.row .af 9 (ps.map (λx:Kp×Kp=>(aE .af) x.2))),(5,.int .i64 i)]) cy _ _ (λi b hi hl=>?_) ?_
 ·have hw:=aQ i (by first|omega|(simp at hl;omega));obtain⟨_,rfl⟩:=aF.1 hi;have h:=Xr (ps[i]).1 (ps[i]).2 (dQ _ (bx hl));try simp at h
  simp -implicitDefEqProofs [Am,KA,hl,hw,cy,h]
 ·simp -implicitDefEqProofs [Am,KA]
def Xs(a b:List Kp)(hb:wL bP a<=1073741824):ev LI TT 87 [.row .af 9 (a.map (aE .af)),.row .af 9 (b.map (aE .af))]=some (.bool (decide (a=b)),[.dead,.dead]):=by
 rw[aq (b:=E0) (rs:=[.t 4]) (n:=2) rfl rfl];simp -implicitDefEqProofs [E0];have hlen:=bn (w:=bP) a;by_cases h:a.length=b.length;·obtain⟨ps,rfl,rfl⟩:=lK h;have h1:=UP ps (by simp at hlen;omega) (λx hx=>eO (fu (fK hx)) hb);have h2:=kO ps;simp at h1;rw[<-h2];cases h3:aM cy ps<;>rw[h3] at h1<;>simp[h1,kJ]
 ·have:¬a=b:=λe=>h (by rw[e]);simp[this];omega
def XA(a:Bn)(n:Int)(hb:sL a)(hn:0<=n)(hm:n<=9223372036854775807):ev LI TT 99 [.agg (aW a),.int .i64 n]=some (.int .i64 (aB n (aV a)),[.dead,.dead]):=by
 rw[aq (b:=wC) (rs:=[.t 4]) (n:=2) rfl rfl];have hw:aV a=a.a.length+a.b.length:=rfl;have ht:=bR n (aV a);have s9:a.a.length<=9223372036854775807:=hb.QZ;obtain⟨m1,e1⟩:∃m,m=n - (a.a.length:Int):=⟨_,rfl⟩;have c1:IntKind.i64.wrap (n - (a.a.length:Int))=m1:=by rw[e1];exact bK (by omega) (by omega)
 by_cases h1:m1<0
 ·have ef:aB n (aV a)=-1:=by omega
  simp -implicitDefEqProofs [wC,c1,h1,ef]
 have mR:a.b.length<=9223372036854775807:=hb.k_b;obtain⟨m2,e2⟩:∃m,m=m1 - (a.b.length:Int):=⟨_,rfl⟩;have c2:IntKind.i64.wrap (m1 - (a.b.length:Int))=m2:=by rw[e2];exact bK (by omega) (by omega)
 by_cases h2:m2<0
 ·have ef:aB n (aV a)=-1:=by omega
  simp -implicitDefEqProofs [wC,c1,h1,c2,h2,ef]
 have ef:aB n (aV a)=m2:=by omega
 simp -implicitDefEqProofs [wC,c1,h1,c2,h2,ef];all_goals (repeat' split)<;>first|rfl|omega|(simp_all;done)|(simp_all;omega)|skip
def XS(a:Bn)(hb:aV a<=1048576):ev LI TT 127 [.agg (aW a)]=some (.agg (aW a),[.dead]):=by rw[aq (b:=E7) (rs:=[.c 2 4 true 75]) (n:=1) rfl rfl];have hw:aV a=a.a.length+a.b.length:=rfl;simp -implicitDefEqProofs [E7,hw];all_goals (repeat' split)<;>first|rfl|omega|(simp_all;done)|(simp_all;omega)|skip
def Xj(a b:Bn)(hb:aV a<=1073741824):ev LI TT 155 [.agg (aW a),.agg (aW b)]=some (.bool (decide (a=b)),[.dead,.dead]):=by
 rw[aq (b:=rD) (rs:=[.t 4]) (n:=2) rfl rfl];have hw:aV a=a.a.length+a.b.length:=rfl;rw[Zd];by_cases g1:a.kind=b.kind;rotate_left;·simp -implicitDefEqProofs [rD,eq_false g1]
 by_cases g2:a.a=b.a;rotate_left;·simp -implicitDefEqProofs [rD,eq_true g1,eq_false g2]
 by_cases g3:a.b=b.b;rotate_left;·simp -implicitDefEqProofs [rD,eq_true g1,eq_true g2,eq_false g3]
 by_cases g4:a.t=b.t;rotate_left;·simp -implicitDefEqProofs [rD,eq_true g1,eq_true g2,eq_true g3,eq_false g4]
 simp -implicitDefEqProofs [rD,eq_true g1,eq_true g2,eq_true g3,eq_true g4];all_goals (repeat' split)<;>first|rfl|omega|(simp_all;done)|(simp_all;omega)|skip
def UU(l:List Bn)(hlen:l.length<=9223372036854775807)(hb:bL sL l)(n:Int)(hn:0<=n)(hm:n<=9223372036854775807):aG (ai (ev LI TT) (aj TT) Ar) [(0,.row .af 4 (l.map (aW))),(1,.int .i64 n),(5,.int .i64 0)]=if eZ (λb n=>aB n (aV b)) (l) n<0 then some (.ret,[(4,.int .i64 (-1))]) else some (.exit 0,[(0,.row .af 4 (l.map (aW))),(1,.int .i64 (eZ (λb n=>aB n (aV b)) (l) n)),(5,.int .i64 (l).length),(15,.bool false)]):=by
 refine rJ (f:=ai (ev LI TT) (aj TT) Ar) (l) (λi n=>[(0,.row .af 4 (l.map (aW))),(1,.int .i64 n),(5,.int .i64 i)]) (λb n=>aB n (aV b)) _ (λn=>[(0,.row .af 4 (l.map (aW))),(1,.int .i64 n),(5,.int .i64 (l).length),(15,.bool false)]) n hn hm (λb n=>sg _ n) (λi b n hi hl hn hm=>?_) (λn=>?_)
 ·have hw:=aQ i (by first|omega|(simp at hl;omega));obtain⟨_,rfl⟩:=aF.1 hi;have h2:=XA l[i] n (hb.2 _ (bx hl)) hn hm;obtain⟨m,e1⟩:∃m,m=aB n (aV l[i]):=⟨_,rfl⟩;rw[<-e1] at h2⊢;try simp at h2
  simp -implicitDefEqProofs [Ar,KF,hl,hw,h2]
 ·simp -implicitDefEqProofs [Ar,KF]
def XB(l:List Bn)(n:Int)(hb:bL sL l)(hn:0<=n)(hm:n<=9223372036854775807):ev LI TT 42 [.row .af 4 (l.map (aW)),.int .i64 n]=some (.int .i64 (aB n (wL aV l)),[.dead,.dead]):=by
 rw[aq (b:=wB) (rs:=[.t 4]) (n:=2) rfl rfl];have hl:=hb.1;have hw:wL aV l=l.length+(l.map aV).sum:=rfl;have ht:=bR n (wL aV l);obtain⟨m,e1⟩:∃m,m=n - (l.length:Int):=⟨_,rfl⟩;have h2:IntKind.i64.wrap (n - (l.length:Int))=m:=by rw[e1];exact bK (by omega) (by omega)
 by_cases h:m<0
 ·have ef:aB n (wL aV l)=-1:=by omega
  simp -implicitDefEqProofs [wB,h2,h,ef]
 have h3:=UU l hb.1 hb m (by omega) (by omega);rw[qc _ _ _ (by omega)] at h3;have hs:=bR m (l.map aV).sum;obtain⟨q,e2⟩:∃q,q=aB m (l.map aV).sum:=⟨_,rfl⟩;rw[<-e2] at h3 hs;try simp at h3
 by_cases h4:q<0
 ·have ef:aB n (wL aV l)=-1:=by omega
  simp only[h4,cG] at h3;simp -implicitDefEqProofs [wB,h2,h,h3,ef]
 have ef:aB n (wL aV l)=q:=by omega
 simp only[h4,cT] at h3;simp -implicitDefEqProofs [wB,h2,h,h3,ef];all_goals (repeat' split)<;>first|rfl|omega|(simp_all;done)|(simp_all;omega)|skip
def U3(l:List Bn)(hlen:l.length<=1048576)(hb:wL aV l<=1048576):aG (ai (ev LI TT) (aj TT) AE) [(0,.row .af 4 (l.map aW)),(3,.row .own 4 (dW (l.map aW) 0 [.int .i64 0,.str ⟨#[]⟩,.str ⟨#[]⟩,.int .i64 0])),(4,.int .i64 0),(6,.int .i64 l.length)]=some (.exit 0,[(0,.row .af 4 (l.map aW)),(3,.row .own 4 (l.map aW)),(4,.int .i64 (l).length),(6,.int .i64 l.length),(11,.bool false)]):=by
 refine nj (f:=ai (ev LI TT) (aj TT) AE) (l) (λi=>[(0,.row .af 4 (l.map aW)),(3,.row .own 4 (dW (l.map aW) i [.int .i64 0,.str ⟨#[]⟩,.str ⟨#[]⟩,.int .i64 0])),(4,.int .i64 i),(6,.int .i64 l.length)]) _ (λi b hi hl=>?_) ?_
 ·have hw:=aQ i (by first|omega|(simp at hl;omega));obtain⟨_,rfl⟩:=aF.1 hi;have h:=XS l[i] (eO (fu (bx hl)) hb);try simp at h
  simp -implicitDefEqProofs [AE,KM,hl,hw,h];first|done|(rw[iJ _ _ _ _ (by simpa using hl) (by simp)];done)|(simp only[pR];rw[iJ _ _ _ _ (by simpa using hl) (by simp)])
 ·simp -implicitDefEqProofs [AE,KM]
def XT(l:List Bn)(hb:wL aV l<=1048576):ev LI TT 67 [.row .af 4 (l.map aW)]=some (.row .own 4 (l.map aW),[.dead]):=by
 rw[aq (b:=E6) (rs:=[.t 2]) (n:=1) rfl rfl];have hlen:=bn (w:=aV) l;have h:=U3 l (by omega) hb;try simp at h
 simp -implicitDefEqProofs [E6,h,(by omega:(l.length:Int)*48<=140737488355328)];all_goals (repeat' split)<;>first|rfl|omega|(simp_all;done)|(simp_all;omega)|skip
def UL(ps:List (Bn×Bn))(hb:ps.length<=9223372036854775807)(dQ:∀x∈ps,aV x.1<=1073741824):aG (ai (ev LI TT) (aj TT) Ai) [(0,.row .af 4 (ps.map (λx:Bn×Bn=>aW x.1))),(1,.row .af 4 (ps.map (λx:Bn×Bn=>aW x.2))),(5,.int .i64 0)]=if aM cy (ps)=true then some (.exit 0,[(0,.row .af 4 (ps.map (λx:Bn×Bn=>aW x.1))),(1,.row .af 4 (ps.map (λx:Bn×Bn=>aW x.2))),(5,.int .i64 ps.length),(14,.bool false)]) else some (.ret,[(4,.bool false)]):=by
 refine cZ (f:=ai (ev LI TT) (aj TT) Ai) (ps) (λi=>[(0,.row .af 4 (ps.map (λx:Bn×Bn=>aW x.1))),(1,.row .af 4 (ps.map (λx:Bn×Bn=>aW x.2))),(5,.int .i64 i)]) cy _ _ (λi b hi hl=>?_) ?_
 ·have hw:=aQ i (by first|omega|(simp at hl;omega));obtain⟨_,rfl⟩:=aF.1 hi;have h:=Xj (ps[i]).1 (ps[i]).2 (dQ _ (bx hl));try simp at h
  simp -implicitDefEqProofs [Ai,Kv,hl,hw,cy,h]
 ·simp -implicitDefEqProofs [Ai,Kv]
def Xk(a b:List Bn)(hb:wL aV a<=1073741824):ev LI TT 88 [.row .af 4 (a.map aW),.row .af 4 (b.map aW)]=some (.bool (decide (a=b)),[.dead,.dead]):=by
 rw[aq (b:=EW) (rs:=[.t 4]) (n:=2) rfl rfl];simp -implicitDefEqProofs [EW];have hlen:=bn (w:=aV) a;by_cases h:a.length=b.length;·obtain⟨ps,rfl,rfl⟩:=lK h;have h1:=UL ps (by simp at hlen;omega) (λx hx=>eO (fu (fK hx)) hb);have h2:=kO ps;simp at h1;rw[<-h2];cases h3:aM cy ps<;>rw[h3] at h1<;>simp[h1,kJ]
 ·have:¬a=b:=λe=>h (by rw[e]);simp[this];omega
def XP(a:Sh)(n:Int)(hb:HW a)(hn:0<=n)(hm:n<=9223372036854775807):ev LI TT 12 [.agg ((aL .af) a),.int .i64 n]=some (.int .i64 (aB n (cm a)),[.dead,.dead]):=by
 rw[aq (b:=tT) (rs:=[.t 4]) (n:=2) rfl rfl];have hw:cm a=cv a.aP+wL bP a.av+wL aV a.aU:=rfl;have ht:=bR n (cm a);have c1:=XD a.aP n hb.aeH (by omega) (by omega);have s1:=bR n (cv a.aP);obtain⟨m1,e1⟩:∃m,m=aB n (cv a.aP):=⟨_,rfl⟩;rw[<-e1] at c1 s1;try simp at c1
 by_cases h1:m1<0
 ·have ef:aB n (cm a)=-1:=by omega
  simp -implicitDefEqProofs [tT,c1,h1,ef]
 have c2:=XJ a.av m1 hb.aeL (by omega) (by omega);have s2:=bR m1 (wL bP a.av);obtain⟨m2,e2⟩:∃m,m=aB m1 (wL bP a.av):=⟨_,rfl⟩;rw[<-e2] at c2 s2;try simp at c2
 by_cases h2:m2<0
 ·have ef:aB n (cm a)=-1:=by omega
  simp -implicitDefEqProofs [tT,c1,h1,c2,h2,ef]
 have c3:=XB a.aU m2 hb.Q0 (by omega) (by omega);have s3:=bR m2 (wL aV a.aU);obtain⟨m3,e3⟩:∃m,m=aB m2 (wL aV a.aU):=⟨_,rfl⟩;rw[<-e3] at c3 s3;try simp at c3
 by_cases h3:m3<0
 ·have ef:aB n (cm a)=-1:=by omega
  simp -implicitDefEqProofs [tT,c1,h1,c2,h2,c3,h3,ef]
 have ef:aB n (cm a)=m3:=by omega
 simp -implicitDefEqProofs [tT,c1,h1,c2,h2,c3,h3,ef];all_goals (repeat' split)<;>first|rfl|omega|(simp_all;done)|(simp_all;omega)|skip
def X6(a:Sh)(hb:cm a<=1048576):ev LI TT 22 [.agg ((aL .af) a)]=some (.agg ((aL .own) a),[.dead]):=by
 rw[aq (b:=Fs) (rs:=[.c 2 6 true 43]) (n:=1) rfl rfl];have hw:cm a=cv a.aP+wL bP a.av+wL aV a.aU:=rfl;have h1:=XV a.aP (by omega);try simp at h1
 have h2:=X1 a.av (by omega);try simp at h2
 have h3:=XT a.aU (by omega);try simp at h3
 simp -implicitDefEqProofs [Fs,h1,h2,h3,hw];all_goals (repeat' split)<;>first|rfl|omega|(simp_all;done)|(simp_all;omega)|skip
def Xx(a b:Sh)(hb:cm a<=1073741824):ev LI TT 32 [.agg ((aL .af) a),.agg ((aL .af) b)]=some (.bool (decide (a=b)),[.dead,.dead]):=by
 rw[aq (b:=pO) (rs:=[.t 4]) (n:=2) rfl rfl];have hw:cm a=cv a.aP+wL bP a.av+wL aV a.aU:=rfl;rw[Zp];have c1:=Xm a.aP b.aP (by omega);cases g1:decide (a.aP=b.aP)
 ·rw[g1] at c1;try simp at c1
  simp -implicitDefEqProofs [pO,c1]
 rw[g1] at c1;try simp at c1
 have c2:=Xs a.av b.av (by omega);cases g2:decide (a.av=b.av)
 ·rw[g2] at c2;try simp at c2
  simp -implicitDefEqProofs [pO,c1,c2]
 rw[g2] at c2;try simp at c2
 have c3:=Xk a.aU b.aU (by omega);cases g3:decide (a.aU=b.aU)
 ·rw[g3] at c3;try simp at c3
  simp -implicitDefEqProofs [pO,c1,c2,c3]
 rw[g3] at c3;try simp at c3
 by_cases g4:a.next=b.next
 rotate_left;·simp -implicitDefEqProofs [pO,c1,c2,c3,eq_false g4]
 by_cases g5:a.seq=b.seq;rotate_left;·simp -implicitDefEqProofs [pO,c1,c2,c3,eq_true g4,eq_false g5]
 simp -implicitDefEqProofs [pO,c1,c2,c3,eq_true g4,eq_true g5];all_goals (repeat' split)<;>first|rfl|omega|(simp_all;done)|(simp_all;omega)|skip
def Im(a:Rq)(n:Int)(hb:vb a)(hn:0<=n)(hm:n<=9223372036854775807):ev LI TT 100 [.agg ((ja .af) a),.int .i64 n]=some (.int .i64 (aB n (cF a)),[.dead,.dead]):=by
 rw[aq (b:=tS) (rs:=[.t 4]) (n:=2) rfl rfl];have hw:cF a=a.path.length+wL aN a.fields+a.body.length:=rfl;have ht:=bR n (cF a);have s9:a.path.length<=9223372036854775807:=hb.Kq;obtain⟨m1,e1⟩:∃m,m=n - (a.path.length:Int):=⟨_,rfl⟩;have c1:IntKind.i64.wrap (n - (a.path.length:Int))=m1:=by rw[e1];exact bK (by omega) (by omega)
 by_cases h1:m1<0
 ·have ef:aB n (cF a)=-1:=by omega
  simp -implicitDefEqProofs [tS,c1,h1,ef]
 have c2:=Od a.fields m1 hb.Kn (by omega) (by omega);have s2:=bR m1 (wL aN a.fields);obtain⟨m2,e2⟩:∃m,m=aB m1 (wL aN a.fields):=⟨_,rfl⟩;rw[<-e2] at c2 s2;try simp at c2
 by_cases h2:m2<0
 ·have ef:aB n (cF a)=-1:=by omega
  simp -implicitDefEqProofs [tS,c1,h1,c2,h2,ef]
 have vJ:a.body.length<=9223372036854775807:=hb.Km;obtain⟨m3,e3⟩:∃m,m=m2 - (a.body.length:Int):=⟨_,rfl⟩;have c3:IntKind.i64.wrap (m2 - (a.body.length:Int))=m3:=by rw[e3];exact bK (by omega) (by omega)
 by_cases h3:m3<0
 ·have ef:aB n (cF a)=-1:=by omega
  simp -implicitDefEqProofs [tS,c1,h1,c2,h2,c3,h3,ef]
 have ef:aB n (cF a)=m3:=by omega
 simp -implicitDefEqProofs [tS,c1,h1,c2,h2,c3,h3,ef];all_goals (repeat' split)<;>first|rfl|omega|(simp_all;done)|(simp_all;omega)|skip
def Ir(a:Rq)(hb:cF a<=1048576):ev LI TT 128 [.agg ((ja .af) a)]=some (.agg ((ja .own) a),[.dead]):=by
 rw[aq (b:=Fm) (rs:=[.c 2 4 true 103]) (n:=1) rfl rfl];have hw:cF a=a.path.length+wL aN a.fields+a.body.length:=rfl;have h1:=Oe a.fields (by omega);try simp at h1
 simp -implicitDefEqProofs [Fm,h1,hw];all_goals (repeat' split)<;>first|rfl|omega|(simp_all;done)|(simp_all;omega)|skip
def Ii(a b:Rq)(hb:cF a<=1073741824):ev LI TT 156 [.agg ((ja .af) a),.agg ((ja .af) b)]=some (.bool (decide (a=b)),[.dead,.dead]):=by
 rw[aq (b:=rF) (rs:=[.t 4]) (n:=2) rfl rfl];have hw:cF a=a.path.length+wL aN a.fields+a.body.length:=rfl;rw[Zm];by_cases g1:a.method=b.method;rotate_left;·simp -implicitDefEqProofs [rF,eq_false g1]
 by_cases g2:a.path=b.path;rotate_left;·simp -implicitDefEqProofs [rF,eq_true g1,eq_false g2]
 have c3:=Oc a.fields b.fields (by omega);cases g3:decide (a.fields=b.fields)
 ·rw[g3] at c3;try simp at c3
  simp -implicitDefEqProofs [rF,eq_true g1,eq_true g2,c3]
 rw[g3] at c3;try simp at c3
 by_cases g4:a.body=b.body;rotate_left;·simp -implicitDefEqProofs [rF,eq_true g1,eq_true g2,c3,eq_false g4]
 simp -implicitDefEqProofs [rF,eq_true g1,eq_true g2,c3,eq_true g4];all_goals (repeat' split)<;>first|rfl|omega|(simp_all;done)|(simp_all;omega)|skip
def XH(l:List Int)(n:Int)(hb:l.length<=9223372036854775807)(hn:0<=n)(hm:n<=9223372036854775807):ev LI TT 101 [.row .af 1 (l.map eI),.int .i64 n]=some (.int .i64 (aB n (wL wO l)),[.dead,.dead]):=by
 rw[aq (b:=Av) (rs:=[.t 4]) (n:=2) rfl rfl];have hw:wL wO l=l.length:=by simp[wL,wO];clear hb;induction l<;>simp_all[wO]
 have ht:=bR n (wL wO l);obtain⟨m,e1⟩:∃m,m=n - (l.length:Int):=⟨_,rfl⟩;have h2:IntKind.i64.wrap (n - (l.length:Int))=m:=by rw[e1];exact bK (by omega) (by omega)
 by_cases h:m<0
 ·have ef:aB n (wL wO l)=-1:=by omega
  simp -implicitDefEqProofs [Av,h2,h,ef]
 have ef:aB n (wL wO l)=m:=by omega
 simp -implicitDefEqProofs [Av,h2,h,ef];all_goals (repeat' split)<;>first|rfl|omega|(simp_all;done)|(simp_all;omega)|skip
def U6(l:List Int)(hlen:l.length<=1048576)(hb:wL wO l<=1048576):aG (ai (ev LI TT) (aj TT) AH) [(0,.row .af 1 (l.map eI)),(3,.row .own 1 (dW (l.map eI) 0 [.int .i64 0])),(4,.int .i64 0),(6,.int .i64 l.length)]=some (.exit 0,[(0,.row .af 1 (l.map eI)),(3,.row .own 1 (l.map eI)),(4,.int .i64 (l).length),(6,.int .i64 l.length),(11,.bool false)]):=by
 refine nj (f:=ai (ev LI TT) (aj TT) AH) (l) (λi=>[(0,.row .af 1 (l.map eI)),(3,.row .own 1 (dW (l.map eI) i [.int .i64 0])),(4,.int .i64 i),(6,.int .i64 l.length)]) _ (λi b hi hl=>?_) ?_;·have hw:=aQ i (by first|omega|(simp at hl;omega));obtain⟨_,rfl⟩:=aF.1 hi;skip;simp -implicitDefEqProofs [AH,KP,hl,hw];first|done|(rw[iJ _ _ _ _ (by simpa using hl) (by simp)];done)|(simp only[pR];rw[iJ _ _ _ _ (by simpa using hl) (by simp)])
 ·simp -implicitDefEqProofs [AH,KP]
def XZ(l:List Int)(hb:wL wO l<=1048576):ev LI TT 129 [.row .af 1 (l.map eI)]=some (.row .own 1 (l.map eI),[.dead]):=by
 rw[aq (b:=Ff) (rs:=[.t 2]) (n:=1) rfl rfl];have hlen:=bn (w:=wO) l;have h:=U6 l (by omega) hb;try simp at h
 simp -implicitDefEqProofs [Ff,h,(by omega:(l.length:Int)*8<=140737488355328)];all_goals (repeat' split)<;>first|rfl|omega|(simp_all;done)|(simp_all;omega)|skip
def UO(ps:List (Int×Int))(hb:ps.length<=9223372036854775807)(dQ:∀x∈ps,wO x.1<=1073741824):aG (ai (ev LI TT) (aj TT) Al) [(0,.row .af 1 (ps.map (λx:Int×Int=>eI x.1))),(1,.row .af 1 (ps.map (λx:Int×Int=>eI x.2))),(5,.int .i64 0)]=if aM cy (ps)=true then some (.exit 0,[(0,.row .af 1 (ps.map (λx:Int×Int=>eI x.1))),(1,.row .af 1 (ps.map (λx:Int×Int=>eI x.2))),(5,.int .i64 ps.length),(14,.bool false)]) else some (.ret,[(4,.bool false)]):=by
 refine cZ (f:=ai (ev LI TT) (aj TT) Al) (ps) (λi=>[(0,.row .af 1 (ps.map (λx:Int×Int=>eI x.1))),(1,.row .af 1 (ps.map (λx:Int×Int=>eI x.2))),(5,.int .i64 i)]) cy _ _ (λi b hi hl=>?_) ?_;·have hw:=aQ i (by first|omega|(simp at hl;omega));obtain⟨_,rfl⟩:=aF.1 hi;simp -implicitDefEqProofs [Al,Kz,hl,hw,cy];first|done|(split<;>simp_all)
 ·simp -implicitDefEqProofs [Al,Kz]
def Xq(a b:List Int)(hb:wL wO a<=1073741824):ev LI TT 157 [.row .af 1 (a.map eI),.row .af 1 (b.map eI)]=some (.bool (decide (a=b)),[.dead,.dead]):=by
 rw[aq (b:=EZ) (rs:=[.t 4]) (n:=2) rfl rfl];simp -implicitDefEqProofs [EZ];have hlen:=bn (w:=wO) a;by_cases h:a.length=b.length;·obtain⟨ps,rfl,rfl⟩:=lK h;have h1:=UO ps (by simp at hlen;omega) (λx hx=>eO (fu (fK hx)) hb);have h2:=kO ps;simp at h1;rw[<-h2];cases h3:aM cy ps<;>rw[h3] at h1<;>simp[h1,kJ]
 ·have:¬a=b:=λe=>h (by rw[e]);simp[this];omega
def XF(a:Fl)(n:Int)(hb:uZ a)(hn:0<=n)(hm:n<=9223372036854775807):ev LI TT 43 [.agg ((bW .af) a),.int .i64 n]=some (.int .i64 (aB n (cz a)),[.dead,.dead]):=by
 rw[aq (b:=tQ) (rs:=[.t 4]) (n:=2) rfl rfl];have hw:cz a=cF a.q+wL wO a.who+aZ a.old:=rfl;have ht:=bR n (cz a);have c1:=Im a.q n hb.wm (by omega) (by omega);have s1:=bR n (cF a.q);obtain⟨m1,e1⟩:∃m,m=aB n (cF a.q):=⟨_,rfl⟩;rw[<-e1] at c1 s1;try simp at c1
 by_cases h1:m1<0
 ·have ef:aB n (cz a)=-1:=by omega
  simp -implicitDefEqProofs [tQ,c1,h1,ef]
 have c2:=XH a.who m1 hb.aeV.1 (by omega) (by omega);have s2:=bR m1 (wL wO a.who);obtain⟨m2,e2⟩:∃m,m=aB m1 (wL wO a.who):=⟨_,rfl⟩;rw[<-e2] at c2 s2;try simp at c2
 by_cases h2:m2<0
 ·have ef:aB n (cz a)=-1:=by omega
  simp -implicitDefEqProofs [tQ,c1,h1,c2,h2,ef]
 have c3:=Il a.old m2 hb.aeM (by omega) (by omega);have s3:=bR m2 (aZ a.old);obtain⟨m3,e3⟩:∃m,m=aB m2 (aZ a.old):=⟨_,rfl⟩;rw[<-e3] at c3 s3;try simp at c3
 by_cases h3:m3<0
 ·have ef:aB n (cz a)=-1:=by omega
  simp -implicitDefEqProofs [tQ,c1,h1,c2,h2,c3,h3,ef]
 have ef:aB n (cz a)=m3:=by omega
 simp -implicitDefEqProofs [tQ,c1,h1,c2,h2,c3,h3,ef];all_goals (repeat' split)<;>first|rfl|omega|(simp_all;done)|(simp_all;omega)|skip
def XX(a:Fl)(hb:cz a<=1048576):ev LI TT 68 [.agg ((bW .af) a)]=some (.agg ((bW .own) a),[.dead]):=by
 rw[aq (b:=Fe) (rs:=[.c 2 13 true 105]) (n:=1) rfl rfl];have hw:cz a=cF a.q+wL wO a.who+aZ a.old:=rfl;have h1:=Ir a.q (by omega);try simp at h1
 have h2:=XZ a.who (by omega);try simp at h2
 have h3:=Iq a.old (by omega);try simp at h3
 simp -implicitDefEqProofs [Fe,h1,h2,h3,hw];all_goals (repeat' split)<;>first|rfl|omega|(simp_all;done)|(simp_all;omega)|skip
def Xo(a b:Fl)(hb:cz a<=1073741824):ev LI TT 89 [.agg ((bW .af) a),.agg ((bW .af) b)]=some (.bool (decide (a=b)),[.dead,.dead]):=by
 rw[aq (b:=rE) (rs:=[.t 4]) (n:=2) rfl rfl];have hw:cz a=cF a.q+wL wO a.who+aZ a.old:=rfl;rw[Zh];have c1:=Ii a.q b.q (by omega);cases g1:decide (a.q=b.q)
 ·rw[g1] at c1;try simp at c1
  simp -implicitDefEqProofs [rE,c1]
 rw[g1] at c1;try simp at c1
 have c2:=Xq a.who b.who (by omega);cases g2:decide (a.who=b.who)
 ·rw[g2] at c2;try simp at c2
  simp -implicitDefEqProofs [rE,c1,c2]
 rw[g2] at c2;try simp at c2
 have c3:=Ih a.old b.old (by omega);cases g3:decide (a.old=b.old)
 ·rw[g3] at c3;try simp at c3
  simp -implicitDefEqProofs [rE,c1,c2,c3]
 rw[g3] at c3;try simp at c3
 by_cases g4:a.nX=b.nX;rotate_left;·simp -implicitDefEqProofs [rE,c1,c2,c3,eq_false g4]
 simp -implicitDefEqProofs [rE,c1,c2,c3,eq_true g4];all_goals (repeat' split)<;>first|rfl|omega|(simp_all;done)|(simp_all;omega)|skip
def UX(l:List Fl)(hlen:l.length<=9223372036854775807)(hb:bL uZ l)(n:Int)(hn:0<=n)(hm:n<=9223372036854775807):aG (ai (ev LI TT) (aj TT) Au) [(0,.row .af 13 (l.map (bW .af))),(1,.int .i64 n),(5,.int .i64 0)]=if eZ (λb n=>aB n (cz b)) (l) n<0 then some (.ret,[(4,.int .i64 (-1))]) else some (.exit 0,[(0,.row .af 13 (l.map (bW .af))),(1,.int .i64 (eZ (λb n=>aB n (cz b)) (l) n)),(5,.int .i64 (l).length),(15,.bool false)]):=by
 refine rJ (f:=ai (ev LI TT) (aj TT) Au) (l) (λi n=>[(0,.row .af 13 (l.map (bW .af))),(1,.int .i64 n),(5,.int .i64 i)]) (λb n=>aB n (cz b)) _ (λn=>[(0,.row .af 13 (l.map (bW .af))),(1,.int .i64 n),(5,.int .i64 (l).length),(15,.bool false)]) n hn hm (λb n=>sg _ n) (λi b n hi hl hn hm=>?_) (λn=>?_)
 ·have hw:=aQ i (by first|omega|(simp at hl;omega));obtain⟨_,rfl⟩:=aF.1 hi;have h2:=XF l[i] n (hb.2 _ (bx hl)) hn hm;obtain⟨m,e1⟩:∃m,m=aB n (cz l[i]):=⟨_,rfl⟩;rw[<-e1] at h2⊢;try simp at h2
  simp -implicitDefEqProofs [Au,KH,hl,hw,h2]
 ·simp -implicitDefEqProofs [Au,KH]
def XG(l:List Fl)(n:Int)(hb:bL uZ l)(hn:0<=n)(hm:n<=9223372036854775807):ev LI TT 13 [.row .af 13 (l.map (bW .af)),.int .i64 n]=some (.int .i64 (aB n (wL cz l)),[.dead,.dead]):=by
 rw[aq (b:=wG) (rs:=[.t 4]) (n:=2) rfl rfl];have hl:=hb.1;have hw:wL cz l=l.length+(l.map cz).sum:=rfl;have ht:=bR n (wL cz l);obtain⟨m,e1⟩:∃m,m=n - (l.length:Int):=⟨_,rfl⟩;have h2:IntKind.i64.wrap (n - (l.length:Int))=m:=by rw[e1];exact bK (by omega) (by omega)
 by_cases h:m<0
 ·have ef:aB n (wL cz l)=-1:=by omega
  simp -implicitDefEqProofs [wG,h2,h,ef]
 have h3:=UX l hb.1 hb m (by omega) (by omega);rw[qc _ _ _ (by omega)] at h3;have hs:=bR m (l.map cz).sum;obtain⟨q,e2⟩:∃q,q=aB m (l.map cz).sum:=⟨_,rfl⟩;rw[<-e2] at h3 hs;try simp at h3
 by_cases h4:q<0
 ·have ef:aB n (wL cz l)=-1:=by omega
  simp only[h4,cG] at h3;simp -implicitDefEqProofs [wG,h2,h,h3,ef]
 have ef:aB n (wL cz l)=q:=by omega
 simp only[h4,cT] at h3;simp -implicitDefEqProofs [wG,h2,h,h3,ef];all_goals (repeat' split)<;>first|rfl|omega|(simp_all;done)|(simp_all;omega)|skip
def U5(l:List Fl)(hlen:l.length<=1048576)(hb:wL cz l<=1048576):aG (ai (ev LI TT) (aj TT) AG) [(0,.row .af 13 (l.map (bW .af))),(3,.row .own 13 (dW (l.map (bW .own)) 0 [.int .i64 0,.str ⟨#[]⟩,.row .own 2 [],.str ⟨#[]⟩,.row .own 1 [],.str ⟨#[]⟩,.row .own 1 [],.row .own 1 [],.int .i64 0,.row .own 2 [],.str ⟨#[]⟩,.int .i64 0,.bool false])),(4,.int .i64 0),(6,.int .i64 l.length)]=some (.exit 0,[(0,.row .af 13 (l.map (bW .af))),(3,.row .own 13 (l.map (bW .own))),(4,.int .i64 (l).length),(6,.int .i64 l.length),(11,.bool false)]):=by
 refine nj (f:=ai (ev LI TT) (aj TT) AG) (l) (λi=>[(0,.row .af 13 (l.map (bW .af))),(3,.row .own 13 (dW (l.map (bW .own)) i [.int .i64 0,.str ⟨#[]⟩,.row .own 2 [],.str ⟨#[]⟩,.row .own 1 [],.str ⟨#[]⟩,.row .own 1 [],.row .own 1 [],.int .i64 0,.row .own 2 [],.str ⟨#[]⟩,.int .i64 0,.bool false])),(4,.int .i64 i),(6,.int .i64 l.length)]) _ (λi b hi hl=>?_) ?_
 ·have hw:=aQ i (by first|omega|(simp at hl;omega));obtain⟨_,rfl⟩:=aF.1 hi;have h:=XX l[i] (eO (fu (bx hl)) hb);try simp at h
  simp -implicitDefEqProofs [AG,KO,hl,hw,h];first|done|(rw[iJ _ _ _ _ (by simpa using hl) (by simp)];done)|(simp only[pR];rw[iJ _ _ _ _ (by simpa using hl) (by simp)])
 ·simp -implicitDefEqProofs [AG,KO]
def XY(l:List Fl)(hb:wL cz l<=1048576):ev LI TT 23 [.row .af 13 (l.map (bW .af))]=some (.row .own 13 (l.map (bW .own)),[.dead]):=by
 rw[aq (b:=Fc) (rs:=[.t 2]) (n:=1) rfl rfl];have hlen:=bn (w:=cz) l;have h:=U5 l (by omega) hb;try simp at h
 simp -implicitDefEqProofs [Fc,h,(by omega:(l.length:Int)*216<=140737488355328)];all_goals (repeat' split)<;>first|rfl|omega|(simp_all;done)|(simp_all;omega)|skip
def UN(ps:List (Fl×Fl))(hb:ps.length<=9223372036854775807)(dQ:∀x∈ps,cz x.1<=1073741824):aG (ai (ev LI TT) (aj TT) Ak) [(0,.row .af 13 (ps.map (λx:Fl×Fl=>(bW .af) x.1))),(1,.row .af 13 (ps.map (λx:Fl×Fl=>(bW .af) x.2))),(5,.int .i64 0)]=if aM cy (ps)=true then some (.exit 0,[(0,.row .af 13 (ps.map (λx:Fl×Fl=>(bW .af) x.1))),(1,.row .af 13 (ps.map (λx:Fl×Fl=>(bW .af) x.2))),(5,.int .i64 ps.length),(14,.bool false)]) else some (.ret,[(4,.bool false)]):=by
 refine cZ (f:=ai (ev LI TT) (aj TT) Ak) (ps) (λi=>[(0,.row .af 13 (ps.map (λx:Fl×Fl=>(bW .af) x.1))),(1,.row .af 13 (ps.map (λx:Fl×Fl=>(bW .af) x.2))),(5,.int .i64 i)]) cy _ _ (λi b hi hl=>?_) ?_
 ·have hw:=aQ i (by first|omega|(simp at hl;omega));obtain⟨_,rfl⟩:=aF.1 hi;have h:=Xo (ps[i]).1 (ps[i]).2 (dQ _ (bx hl));try simp at h
  simp -implicitDefEqProofs [Ak,Ky,hl,hw,cy,h]
 ·simp -implicitDefEqProofs [Ak,Ky]
def Xp(a b:List Fl)(hb:wL cz a<=1073741824):ev LI TT 33 [.row .af 13 (a.map (bW .af)),.row .af 13 (b.map (bW .af))]=some (.bool (decide (a=b)),[.dead,.dead]):=by
 rw[aq (b:=EY) (rs:=[.t 4]) (n:=2) rfl rfl];simp -implicitDefEqProofs [EY];have hlen:=bn (w:=cz) a;by_cases h:a.length=b.length;·obtain⟨ps,rfl,rfl⟩:=lK h;have h1:=UN ps (by simp at hlen;omega) (λx hx=>eO (fu (fK hx)) hb);have h2:=kO ps;simp at h1;rw[<-h2];cases h3:aM cy ps<;>rw[h3] at h1<;>simp[h1,kJ]
 ·have:¬a=b:=λe=>h (by rw[e]);simp[this];omega
def XM(a:Se)(n:Int)(hb:vf a)(hn:0<=n)(hm:n<=9223372036854775807):ev LI TT 44 [.agg ((dM .af) a),.int .i64 n]=some (.int .i64 (aB n (dm a)),[.dead,.dead]):=by
 rw[aq (b:=wM) (rs:=[.t 4]) (n:=2) rfl rfl];have hw:dm a=cF a.q+bC a.resp:=rfl;have ht:=bR n (dm a);have c1:=Im a.q n hb.wm (by omega) (by omega);have s1:=bR n (cF a.q);obtain⟨m1,e1⟩:∃m,m=aB n (cF a.q):=⟨_,rfl⟩;rw[<-e1] at c1 s1;try simp at c1
 by_cases h1:m1<0
 ·have ef:aB n (dm a)=-1:=by omega
  simp -implicitDefEqProofs [wM,c1,h1,ef]
 have c2:=Io a.resp m1 hb.wo (by omega) (by omega);have s2:=bR m1 (bC a.resp);obtain⟨m2,e2⟩:∃m,m=aB m1 (bC a.resp):=⟨_,rfl⟩;rw[<-e2] at c2 s2;try simp at c2
 by_cases h2:m2<0
 ·have ef:aB n (dm a)=-1:=by omega
  simp -implicitDefEqProofs [wM,c1,h1,c2,h2,ef]
 have ef:aB n (dm a)=m2:=by omega
 simp -implicitDefEqProofs [wM,c1,h1,c2,h2,ef];all_goals (repeat' split)<;>first|rfl|omega|(simp_all;done)|(simp_all;omega)|skip
def X4(a:Se)(hb:dm a<=1048576):ev LI TT 69 [.agg ((dM .af) a)]=some (.agg ((dM .own) a),[.dead]):=by
 rw[aq (b:=Fq) (rs:=[.c 2 8 true 131]) (n:=1) rfl rfl];have hw:dm a=cF a.q+bC a.resp:=rfl;have h1:=Ir a.q (by omega);try simp at h1
 have h2:=Is a.resp (by omega);try simp at h2
 simp -implicitDefEqProofs [Fq,h1,h2,hw];all_goals (repeat' split)<;>first|rfl|omega|(simp_all;done)|(simp_all;omega)|skip
def Xv(a b:Se)(hb:dm a<=1073741824):ev LI TT 90 [.agg ((dM .af) a),.agg ((dM .af) b)]=some (.bool (decide (a=b)),[.dead,.dead]):=by
 rw[aq (b:=tP) (rs:=[.t 4]) (n:=2) rfl rfl];have hw:dm a=cF a.q+bC a.resp:=rfl;rw[Zo];have c1:=Ii a.q b.q (by omega);cases g1:decide (a.q=b.q)
 ·rw[g1] at c1;try simp at c1
  simp -implicitDefEqProofs [tP,c1]
 rw[g1] at c1;try simp at c1
 have c2:=Ij a.resp b.resp (by omega);cases g2:decide (a.resp=b.resp)
 ·rw[g2] at c2;try simp at c2
  simp -implicitDefEqProofs [tP,c1,c2]
 rw[g2] at c2;try simp at c2
 by_cases g3:a.t=b.t;rotate_left;·simp -implicitDefEqProofs [tP,c1,c2,eq_false g3]
 simp -implicitDefEqProofs [tP,c1,c2,eq_true g3];all_goals (repeat' split)<;>first|rfl|omega|(simp_all;done)|(simp_all;omega)|skip
def U0(l:List Se)(hlen:l.length<=9223372036854775807)(hb:bL vf l)(n:Int)(hn:0<=n)(hm:n<=9223372036854775807):aG (ai (ev LI TT) (aj TT) AA) [(0,.row .af 8 (l.map (dM .af))),(1,.int .i64 n),(5,.int .i64 0)]=if eZ (λb n=>aB n (dm b)) (l) n<0 then some (.ret,[(4,.int .i64 (-1))]) else some (.exit 0,[(0,.row .af 8 (l.map (dM .af))),(1,.int .i64 (eZ (λb n=>aB n (dm b)) (l) n)),(5,.int .i64 (l).length),(15,.bool false)]):=by
 refine rJ (f:=ai (ev LI TT) (aj TT) AA) (l) (λi n=>[(0,.row .af 8 (l.map (dM .af))),(1,.int .i64 n),(5,.int .i64 i)]) (λb n=>aB n (dm b)) _ (λn=>[(0,.row .af 8 (l.map (dM .af))),(1,.int .i64 n),(5,.int .i64 (l).length),(15,.bool false)]) n hn hm (λb n=>sg _ n) (λi b n hi hl hn hm=>?_) (λn=>?_)
 ·have hw:=aQ i (by first|omega|(simp at hl;omega));obtain⟨_,rfl⟩:=aF.1 hi;have h2:=XM l[i] n (hb.2 _ (bx hl)) hn hm;obtain⟨m,e1⟩:∃m,m=aB n (dm l[i]):=⟨_,rfl⟩;rw[<-e1] at h2⊢;try simp at h2
  simp -implicitDefEqProofs [AA,KK,hl,hw,h2]
 ·simp -implicitDefEqProofs [AA,KK]
def XO(l:List Se)(n:Int)(hb:bL vf l)(hn:0<=n)(hm:n<=9223372036854775807):ev LI TT 14 [.row .af 8 (l.map (dM .af)),.int .i64 n]=some (.int .i64 (aB n (wL dm l)),[.dead,.dead]):=by
 rw[aq (b:=wK) (rs:=[.t 4]) (n:=2) rfl rfl];have hl:=hb.1;have hw:wL dm l=l.length+(l.map dm).sum:=rfl;have ht:=bR n (wL dm l);obtain⟨m,e1⟩:∃m,m=n - (l.length:Int):=⟨_,rfl⟩;have h2:IntKind.i64.wrap (n - (l.length:Int))=m:=by rw[e1];exact bK (by omega) (by omega)
 by_cases h:m<0
 ·have ef:aB n (wL dm l)=-1:=by omega
  simp -implicitDefEqProofs [wK,h2,h,ef]
 have h3:=U0 l hb.1 hb m (by omega) (by omega);rw[qc _ _ _ (by omega)] at h3;have hs:=bR m (l.map dm).sum;obtain⟨q,e2⟩:∃q,q=aB m (l.map dm).sum:=⟨_,rfl⟩;rw[<-e2] at h3 hs;try simp at h3
 by_cases h4:q<0
 ·have ef:aB n (wL dm l)=-1:=by omega
  simp only[h4,cG] at h3;simp -implicitDefEqProofs [wK,h2,h,h3,ef]
 have ef:aB n (wL dm l)=q:=by omega
 simp only[h4,cT] at h3;simp -implicitDefEqProofs [wK,h2,h,h3,ef];all_goals (repeat' split)<;>first|rfl|omega|(simp_all;done)|(simp_all;omega)|skip
def U9(l:List Se)(hlen:l.length<=1048576)(hb:wL dm l<=1048576):aG (ai (ev LI TT) (aj TT) AL) [(0,.row .af 8 (l.map (dM .af))),(3,.row .own 8 (dW (l.map (dM .own)) 0 [.int .i64 0,.str ⟨#[]⟩,.row .own 2 [],.str ⟨#[]⟩,.int .i64 0,.row .own 2 [],.str ⟨#[]⟩,.int .i64 0])),(4,.int .i64 0),(6,.int .i64 l.length)]=some (.exit 0,[(0,.row .af 8 (l.map (dM .af))),(3,.row .own 8 (l.map (dM .own))),(4,.int .i64 (l).length),(6,.int .i64 l.length),(11,.bool false)]):=by
 refine nj (f:=ai (ev LI TT) (aj TT) AL) (l) (λi=>[(0,.row .af 8 (l.map (dM .af))),(3,.row .own 8 (dW (l.map (dM .own)) i [.int .i64 0,.str ⟨#[]⟩,.row .own 2 [],.str ⟨#[]⟩,.int .i64 0,.row .own 2 [],.str ⟨#[]⟩,.int .i64 0])),(4,.int .i64 i),(6,.int .i64 l.length)]) _ (λi b hi hl=>?_) ?_
 ·have hw:=aQ i (by first|omega|(simp at hl;omega));obtain⟨_,rfl⟩:=aF.1 hi;have h:=X4 l[i] (eO (fu (bx hl)) hb);try simp at h
  simp -implicitDefEqProofs [AL,KS,hl,hw,h];first|done|(rw[iJ _ _ _ _ (by simpa using hl) (by simp)];done)|(simp only[pR];rw[iJ _ _ _ _ (by simpa using hl) (by simp)])
 ·simp -implicitDefEqProofs [AL,KS]
def X5(l:List Se)(hb:wL dm l<=1048576):ev LI TT 24 [.row .af 8 (l.map (dM .af))]=some (.row .own 8 (l.map (dM .own)),[.dead]):=by
 rw[aq (b:=Fp) (rs:=[.t 2]) (n:=1) rfl rfl];have hlen:=bn (w:=dm) l;have h:=U9 l (by omega) hb;try simp at h
 simp -implicitDefEqProofs [Fp,h,(by omega:(l.length:Int)*120<=140737488355328)];all_goals (repeat' split)<;>first|rfl|omega|(simp_all;done)|(simp_all;omega)|skip
def UR(ps:List (Se×Se))(hb:ps.length<=9223372036854775807)(dQ:∀x∈ps,dm x.1<=1073741824):aG (ai (ev LI TT) (aj TT) Ao) [(0,.row .af 8 (ps.map (λx:Se×Se=>(dM .af) x.1))),(1,.row .af 8 (ps.map (λx:Se×Se=>(dM .af) x.2))),(5,.int .i64 0)]=if aM cy (ps)=true then some (.exit 0,[(0,.row .af 8 (ps.map (λx:Se×Se=>(dM .af) x.1))),(1,.row .af 8 (ps.map (λx:Se×Se=>(dM .af) x.2))),(5,.int .i64 ps.length),(14,.bool false)]) else some (.ret,[(4,.bool false)]):=by
 refine cZ (f:=ai (ev LI TT) (aj TT) Ao) (ps) (λi=>[(0,.row .af 8 (ps.map (λx:Se×Se=>(dM .af) x.1))),(1,.row .af 8 (ps.map (λx:Se×Se=>(dM .af) x.2))),(5,.int .i64 i)]) cy _ _ (λi b hi hl=>?_) ?_
 ·have hw:=aQ i (by first|omega|(simp at hl;omega));obtain⟨_,rfl⟩:=aF.1 hi;have h:=Xv (ps[i]).1 (ps[i]).2 (dQ _ (bx hl));try simp at h
  simp -implicitDefEqProofs [Ao,KC,hl,hw,cy,h]
 ·simp -implicitDefEqProofs [Ao,KC]
def Xw(a b:List Se)(hb:wL dm a<=1073741824):ev LI TT 34 [.row .af 8 (a.map (dM .af)),.row .af 8 (b.map (dM .af))]=some (.bool (decide (a=b)),[.dead,.dead]):=by
 rw[aq (b:=E2) (rs:=[.t 4]) (n:=2) rfl rfl];simp -implicitDefEqProofs [E2];have hlen:=bn (w:=dm) a;by_cases h:a.length=b.length;·obtain⟨ps,rfl,rfl⟩:=lK h;have h1:=UR ps (by simp at hlen;omega) (λx hx=>eO (fu (fK hx)) hb);have h2:=kO ps;simp at h1;rw[<-h2];cases h3:aM cy ps<;>rw[h3] at h1<;>simp[h1,kJ]
 ·have:¬a=b:=λe=>h (by rw[e]);simp[this];omega
def XK(a:Rp)(n:Int)(hb:va a)(hn:0<=n)(hm:n<=9223372036854775807):ev LI TT 45 [.agg ((dL .af) a),.int .i64 n]=some (.int .i64 (aB n (dh a)),[.dead,.dead]):=by
 rw[aq (b:=tR) (rs:=[.t 4]) (n:=2) rfl rfl];have hw:dh a=cF a.q+bC a.resp+aZ a.obj:=rfl;have ht:=bR n (dh a);have c1:=Im a.q n hb.wm (by omega) (by omega);have s1:=bR n (cF a.q);obtain⟨m1,e1⟩:∃m,m=aB n (cF a.q):=⟨_,rfl⟩;rw[<-e1] at c1 s1;try simp at c1
 by_cases h1:m1<0
 ·have ef:aB n (dh a)=-1:=by omega
  simp -implicitDefEqProofs [tR,c1,h1,ef]
 have c2:=Io a.resp m1 hb.wo (by omega) (by omega);have s2:=bR m1 (bC a.resp);obtain⟨m2,e2⟩:∃m,m=aB m1 (bC a.resp):=⟨_,rfl⟩;rw[<-e2] at c2 s2;try simp at c2
 by_cases h2:m2<0
 ·have ef:aB n (dh a)=-1:=by omega
  simp -implicitDefEqProofs [tR,c1,h1,c2,h2,ef]
 have c3:=Il a.obj m2 hb.Ko (by omega) (by omega);have s3:=bR m2 (aZ a.obj);obtain⟨m3,e3⟩:∃m,m=aB m2 (aZ a.obj):=⟨_,rfl⟩;rw[<-e3] at c3 s3;try simp at c3
 by_cases h3:m3<0
 ·have ef:aB n (dh a)=-1:=by omega
  simp -implicitDefEqProofs [tR,c1,h1,c2,h2,c3,h3,ef]
 have ef:aB n (dh a)=m3:=by omega
 simp -implicitDefEqProofs [tR,c1,h1,c2,h2,c3,h3,ef];all_goals (repeat' split)<;>first|rfl|omega|(simp_all;done)|(simp_all;omega)|skip
def X2(a:Rp)(hb:dh a<=1048576):ev LI TT 70 [.agg ((dL .af) a)]=some (.agg ((dL .own) a),[.dead]):=by
 rw[aq (b:=Fk) (rs:=[.c 2 18 true 134]) (n:=1) rfl rfl];have hw:dh a=cF a.q+bC a.resp+aZ a.obj:=rfl;have h1:=Ir a.q (by omega);try simp at h1
 have h2:=Is a.resp (by omega);try simp at h2
 have h3:=Iq a.obj (by omega);try simp at h3
 simp -implicitDefEqProofs [Fk,h1,h2,h3,hw];all_goals (repeat' split)<;>first|rfl|omega|(simp_all;done)|(simp_all;omega)|skip
def Xt(a b:Rp)(hb:dh a<=1073741824):ev LI TT 91 [.agg ((dL .af) a),.agg ((dL .af) b)]=some (.bool (decide (a=b)),[.dead,.dead]):=by
 rw[aq (b:=ng) (rs:=[.t 4]) (n:=2) rfl rfl];have hw:dh a=cF a.q+bC a.resp+aZ a.obj:=rfl;rw[Zl];by_cases g1:a.client=b.client;rotate_left;·simp -implicitDefEqProofs [ng,eq_false g1]
 have c2:=Ii a.q b.q (by omega);cases g2:decide (a.q=b.q)
 ·rw[g2] at c2;try simp at c2
  simp -implicitDefEqProofs [ng,eq_true g1,c2]
 rw[g2] at c2;try simp at c2
 have c3:=Ij a.resp b.resp (by omega);cases g3:decide (a.resp=b.resp)
 ·rw[g3] at c3;try simp at c3
  simp -implicitDefEqProofs [ng,eq_true g1,c2,c3]
 rw[g3] at c3;try simp at c3
 by_cases g4:a.kind=b.kind;rotate_left;·simp -implicitDefEqProofs [ng,eq_true g1,c2,c3,eq_false g4]
 by_cases g5:a.t=b.t;rotate_left;·simp -implicitDefEqProofs [ng,eq_true g1,c2,c3,eq_true g4,eq_false g5]
 have c6:=Ih a.obj b.obj (by omega);cases g6:decide (a.obj=b.obj)
 ·rw[g6] at c6;try simp at c6
  simp -implicitDefEqProofs [ng,eq_true g1,c2,c3,eq_true g4,eq_true g5,c6]
 rw[g6] at c6;try simp at c6
 by_cases g7:a.aU=b.aU;rotate_left;·simp -implicitDefEqProofs [ng,eq_true g1,c2,c3,eq_true g4,eq_true g5,c6,eq_false g7]
 simp -implicitDefEqProofs [ng,eq_true g1,c2,c3,eq_true g4,eq_true g5,c6,eq_true g7];all_goals (repeat' split)<;>first|rfl|omega|(simp_all;done)|(simp_all;omega)|skip
def UZ(l:List Rp)(hlen:l.length<=9223372036854775807)(hb:bL va l)(n:Int)(hn:0<=n)(hm:n<=9223372036854775807):aG (ai (ev LI TT) (aj TT) Az) [(0,.row .af 18 (l.map (dL .af))),(1,.int .i64 n),(5,.int .i64 0)]=if eZ (λb n=>aB n (dh b)) (l) n<0 then some (.ret,[(4,.int .i64 (-1))]) else some (.exit 0,[(0,.row .af 18 (l.map (dL .af))),(1,.int .i64 (eZ (λb n=>aB n (dh b)) (l) n)),(5,.int .i64 (l).length),(15,.bool false)]):=by
 refine rJ (f:=ai (ev LI TT) (aj TT) Az) (l) (λi n=>[(0,.row .af 18 (l.map (dL .af))),(1,.int .i64 n),(5,.int .i64 i)]) (λb n=>aB n (dh b)) _ (λn=>[(0,.row .af 18 (l.map (dL .af))),(1,.int .i64 n),(5,.int .i64 (l).length),(15,.bool false)]) n hn hm (λb n=>sg _ n) (λi b n hi hl hn hm=>?_) (λn=>?_)
 ·have hw:=aQ i (by first|omega|(simp at hl;omega));obtain⟨_,rfl⟩:=aF.1 hi;have h2:=XK l[i] n (hb.2 _ (bx hl)) hn hm;obtain⟨m,e1⟩:∃m,m=aB n (dh l[i]):=⟨_,rfl⟩;rw[<-e1] at h2⊢;try simp at h2
  simp -implicitDefEqProofs [Az,KJ,hl,hw,h2]
 ·simp -implicitDefEqProofs [Az,KJ]
def XL(l:List Rp)(n:Int)(hb:bL va l)(hn:0<=n)(hm:n<=9223372036854775807):ev LI TT 15 [.row .af 18 (l.map (dL .af)),.int .i64 n]=some (.int .i64 (aB n (wL dh l)),[.dead,.dead]):=by
 rw[aq (b:=wI) (rs:=[.t 4]) (n:=2) rfl rfl];have hl:=hb.1;have hw:wL dh l=l.length+(l.map dh).sum:=rfl;have ht:=bR n (wL dh l);obtain⟨m,e1⟩:∃m,m=n - (l.length:Int):=⟨_,rfl⟩;have h2:IntKind.i64.wrap (n - (l.length:Int))=m:=by rw[e1];exact bK (by omega) (by omega)
 by_cases h:m<0
 ·have ef:aB n (wL dh l)=-1:=by omega
  simp -implicitDefEqProofs [wI,h2,h,ef]
 have h3:=UZ l hb.1 hb m (by omega) (by omega);rw[qc _ _ _ (by omega)] at h3;have hs:=bR m (l.map dh).sum;obtain⟨q,e2⟩:∃q,q=aB m (l.map dh).sum:=⟨_,rfl⟩;rw[<-e2] at h3 hs;try simp at h3
 by_cases h4:q<0
 ·have ef:aB n (wL dh l)=-1:=by omega
  simp only[h4,cG] at h3;simp -implicitDefEqProofs [wI,h2,h,h3,ef]
 have ef:aB n (wL dh l)=q:=by omega
 simp only[h4,cT] at h3;simp -implicitDefEqProofs [wI,h2,h,h3,ef];all_goals (repeat' split)<;>first|rfl|omega|(simp_all;done)|(simp_all;omega)|skip
def U8(l:List Rp)(hlen:l.length<=1048576)(hb:wL dh l<=1048576):aG (ai (ev LI TT) (aj TT) AK) [(0,.row .af 18 (l.map (dL .af))),(3,.row .own 18 (dW (l.map (dL .own)) 0 [.int .i64 0,.int .i64 0,.str ⟨#[]⟩,.row .own 2 [],.str ⟨#[]⟩,.int .i64 0,.row .own 2 [],.str ⟨#[]⟩,.int .i64 0,.int .i64 0,.str ⟨#[]⟩,.row .own 1 [],.row .own 1 [],.int .i64 0,.row .own 2 [],.str ⟨#[]⟩,.int .i64 0,.int .i64 0])),(4,.int .i64 0),(6,.int .i64 l.length)]=some (.exit 0,[(0,.row .af 18 (l.map (dL .af))),(3,.row .own 18 (l.map (dL .own))),(4,.int .i64 (l).length),(6,.int .i64 l.length),(11,.bool false)]):=by
 refine nj (f:=ai (ev LI TT) (aj TT) AK) (l) (λi=>[(0,.row .af 18 (l.map (dL .af))),(3,.row .own 18 (dW (l.map (dL .own)) i [.int .i64 0,.int .i64 0,.str ⟨#[]⟩,.row .own 2 [],.str ⟨#[]⟩,.int .i64 0,.row .own 2 [],.str ⟨#[]⟩,.int .i64 0,.int .i64 0,.str ⟨#[]⟩,.row .own 1 [],.row .own 1 [],.int .i64 0,.row .own 2 [],.str ⟨#[]⟩,.int .i64 0,.int .i64 0])),(4,.int .i64 i),(6,.int .i64 l.length)]) _ (λi b hi hl=>?_) ?_
 ·have hw:=aQ i (by first|omega|(simp at hl;omega));obtain⟨_,rfl⟩:=aF.1 hi;have h:=X2 l[i] (eO (fu (bx hl)) hb);try simp at h
  simp -implicitDefEqProofs [AK,KR,hl,hw,h];first|done|(rw[iJ _ _ _ _ (by simpa using hl) (by simp)];done)|(simp only[pR];rw[iJ _ _ _ _ (by simpa using hl) (by simp)])
 ·simp -implicitDefEqProofs [AK,KR]
def X3(l:List Rp)(hb:wL dh l<=1048576):ev LI TT 25 [.row .af 18 (l.map (dL .af))]=some (.row .own 18 (l.map (dL .own)),[.dead]):=by
 rw[aq (b:=Fj) (rs:=[.t 2]) (n:=1) rfl rfl];have hlen:=bn (w:=dh) l;have h:=U8 l (by omega) hb;try simp at h
 simp -implicitDefEqProofs [Fj,h,(by omega:(l.length:Int)*264<=140737488355328)];all_goals (repeat' split)<;>first|rfl|omega|(simp_all;done)|(simp_all;omega)|skip
def UQ(ps:List (Rp×Rp))(hb:ps.length<=9223372036854775807)(dQ:∀x∈ps,dh x.1<=1073741824):aG (ai (ev LI TT) (aj TT) An) [(0,.row .af 18 (ps.map (λx:Rp×Rp=>(dL .af) x.1))),(1,.row .af 18 (ps.map (λx:Rp×Rp=>(dL .af) x.2))),(5,.int .i64 0)]=if aM cy (ps)=true then some (.exit 0,[(0,.row .af 18 (ps.map (λx:Rp×Rp=>(dL .af) x.1))),(1,.row .af 18 (ps.map (λx:Rp×Rp=>(dL .af) x.2))),(5,.int .i64 ps.length),(14,.bool false)]) else some (.ret,[(4,.bool false)]):=by
 refine cZ (f:=ai (ev LI TT) (aj TT) An) (ps) (λi=>[(0,.row .af 18 (ps.map (λx:Rp×Rp=>(dL .af) x.1))),(1,.row .af 18 (ps.map (λx:Rp×Rp=>(dL .af) x.2))),(5,.int .i64 i)]) cy _ _ (λi b hi hl=>?_) ?_
 ·have hw:=aQ i (by first|omega|(simp at hl;omega));obtain⟨_,rfl⟩:=aF.1 hi;have h:=Xt (ps[i]).1 (ps[i]).2 (dQ _ (bx hl));try simp at h
  simp -implicitDefEqProofs [An,KB,hl,hw,cy,h]
 ·simp -implicitDefEqProofs [An,KB]
def Xu(a b:List Rp)(hb:wL dh a<=1073741824):ev LI TT 35 [.row .af 18 (a.map (dL .af)),.row .af 18 (b.map (dL .af))]=some (.bool (decide (a=b)),[.dead,.dead]):=by
 rw[aq (b:=E1) (rs:=[.t 4]) (n:=2) rfl rfl];simp -implicitDefEqProofs [E1];have hlen:=bn (w:=dh) a;by_cases h:a.length=b.length;·obtain⟨ps,rfl,rfl⟩:=lK h;have h1:=UQ ps (by simp at hlen;omega) (λx hx=>eO (fu (fK hx)) hb);have h2:=kO ps;simp at h1;rw[<-h2];cases h3:aM cy ps<;>rw[h3] at h1<;>simp[h1,kJ]
 ·have:¬a=b:=λe=>h (by rw[e]);simp[this];omega
def XC(a:Ca)(n:Int)(hb:CY a)(hn:0<=n)(hm:n<=9223372036854775807):ev LI TT 5 [.agg ((fo .af) a),.int .i64 n]=some (.int .i64 (aB n (dU a)),[.dead,.dead]):=by
 rw[aq (b:=rG) (rs:=[.t 4]) (n:=2) rfl rfl];have hw:dU a=cm a.aI+wL cz a.bO+wL dm a.seen+wL dh a.sent:=rfl;have ht:=bR n (dU a);have c1:=XP a.aI n hb.aeR (by omega) (by omega);have s1:=bR n (cm a.aI);obtain⟨m1,e1⟩:∃m,m=aB n (cm a.aI):=⟨_,rfl⟩;rw[<-e1] at c1 s1;try simp at c1
 by_cases h1:m1<0
 ·have ef:aB n (dU a)=-1:=by omega
  simp -implicitDefEqProofs [rG,c1,h1,ef]
 have c2:=XG a.bO m1 hb.aeI (by omega) (by omega);have s2:=bR m1 (wL cz a.bO);obtain⟨m2,e2⟩:∃m,m=aB m1 (wL cz a.bO):=⟨_,rfl⟩;rw[<-e2] at c2 s2;try simp at c2
 by_cases h2:m2<0
 ·have ef:aB n (dU a)=-1:=by omega
  simp -implicitDefEqProofs [rG,c1,h1,c2,h2,ef]
 have c3:=XO a.seen m2 hb.aeO (by omega) (by omega);have s3:=bR m2 (wL dm a.seen);obtain⟨m3,e3⟩:∃m,m=aB m2 (wL dm a.seen):=⟨_,rfl⟩;rw[<-e3] at c3 s3;try simp at c3
 by_cases h3:m3<0
 ·have ef:aB n (dU a)=-1:=by omega
  simp -implicitDefEqProofs [rG,c1,h1,c2,h2,c3,h3,ef]
 have c4:=XL a.sent m3 hb.aeP (by omega) (by omega);have s4:=bR m3 (wL dh a.sent);obtain⟨m4,e4⟩:∃m,m=aB m3 (wL dh a.sent):=⟨_,rfl⟩;rw[<-e4] at c4 s4;try simp at c4
 by_cases h4:m4<0
 ·have ef:aB n (dU a)=-1:=by omega
  simp -implicitDefEqProofs [rG,c1,h1,c2,h2,c3,h3,c4,h4,ef]
 have ef:aB n (dU a)=m4:=by omega
 simp -implicitDefEqProofs [rG,c1,h1,c2,h2,c3,h3,c4,h4,ef];all_goals (repeat' split)<;>first|rfl|omega|(simp_all;done)|(simp_all;omega)|skip
def XU(a:Ca)(hb:dU a<=1048576):ev LI TT 7 [.agg ((fo .af) a)]=some (.agg ((fo .own) a),[.dead]):=by
 rw[aq (b:=E8) (rs:=[.c 2 10 true 48]) (n:=1) rfl rfl];have hw:dU a=cm a.aI+wL cz a.bO+wL dm a.seen+wL dh a.sent:=rfl;have h1:=X6 a.aI (by omega);try simp at h1
 have h2:=XY a.bO (by omega);try simp at h2
 have h3:=X5 a.seen (by omega);try simp at h3
 have h4:=X3 a.sent (by omega);try simp at h4
 simp -implicitDefEqProofs [E8,h1,h2,h3,h4,hw];all_goals (repeat' split)<;>first|rfl|omega|(simp_all;done)|(simp_all;omega)|skip
def Xl(a b:Ca)(hb:dU a<=1073741824):ev LI TT 9 [.agg ((fo .af) a),.agg ((fo .af) b)]=some (.bool (decide (a=b)),[.dead,.dead]):=by
 rw[aq (b:=pM) (rs:=[.t 4]) (n:=2) rfl rfl];have hw:dU a=cm a.aI+wL cz a.bO+wL dm a.seen+wL dh a.sent:=rfl;rw[Ze];have c1:=Xx a.aI b.aI (by omega);cases g1:decide (a.aI=b.aI)
 ·rw[g1] at c1;try simp at c1
  simp -implicitDefEqProofs [pM,c1]
 rw[g1] at c1;try simp at c1
 have c2:=Xp a.bO b.bO (by omega);cases g2:decide (a.bO=b.bO)
 ·rw[g2] at c2;try simp at c2
  simp -implicitDefEqProofs [pM,c1,c2]
 rw[g2] at c2;try simp at c2
 by_cases g3:a.now=b.now;rotate_left;·simp -implicitDefEqProofs [pM,c1,c2,eq_false g3]
 have c4:=Xw a.seen b.seen (by omega);cases g4:decide (a.seen=b.seen)
 ·rw[g4] at c4;try simp at c4
  simp -implicitDefEqProofs [pM,c1,c2,eq_true g3,c4]
 rw[g4] at c4;try simp at c4
 have c5:=Xu a.sent b.sent (by omega);cases g5:decide (a.sent=b.sent)
 ·rw[g5] at c5;try simp at c5
  simp -implicitDefEqProofs [pM,c1,c2,eq_true g3,c4,c5]
 rw[g5] at c5;try simp at c5
 simp -implicitDefEqProofs [pM,c1,c2,eq_true g3,c4,c5];all_goals (repeat' split)<;>first|rfl|omega|(simp_all;done)|(simp_all;omega)|skip
end M
namespace M
open Go
@[simp] def amo(x:Int)(lo:Int)(hi:Int):ev LI TT 47 [.int .i64 x,.int .i64 lo,.int .i64 hi]=some (.bool ((decide (lo<=x/\x<=hi))),[.dead,.dead,.dead]):=by rw[aq (b:=GA) (rs:=[.t 6]) (n:=3) rfl rfl];simp -implicitDefEqProofs [GA];try (by_cases h1:lo<=x<;>by_cases h2:x<=hi<;>simp[h1,h2])
@[simp] def amk(x:Int)(lo:Int)(hi:Int):ev LI TT 132 [.int .i64 x,.int .i64 lo,.int .i64 hi]=some (.bool ((decide (lo<=x/\x<=hi))),[.dead,.dead,.dead]):=by rw[aq (b:=EE) (rs:=[.t 6]) (n:=3) rfl rfl];simp -implicitDefEqProofs [EE];try (by_cases h1:lo<=x<;>by_cases h2:x<=hi<;>simp[h1,h2])
def Vx(s:ag)(hb:s.length<=9223372036854775807):aG (ai (ev LI TT) (aj TT) BJ) [(0,.str ⟨s.toArray⟩),(3,.int .i64 0)]=if aM sj (s)=true then some (.exit 0,[(0,.str ⟨s.toArray⟩),(3,.int .i64 (s).length),(8,.bool false)]) else some (.ret,[(2,.bool false)]):=by
 refine cZ (f:=ai (ev LI TT) (aj TT) BJ) (s) (λi=>[(0,.str ⟨s.toArray⟩),(3,.int .i64 i)]) sj _ _ (λi b hi hl=>?_) ?_;·have hw:=aQ i (by first|omega|(simp at hl;omega));obtain⟨_,rfl⟩:=aF.1 hi;unfold sj;simp -implicitDefEqProofs [BJ,LP,hl,hw];all_goals (repeat' split)<;>first|rfl|omega|(simp_all;done)|(simp_all;omega)|skip
 ·simp -implicitDefEqProofs [BJ,LP]
def IA(s:ag)(hb:s.length<=9223372036854775807):ev LI TT 173 [.str ⟨s.toArray⟩]=some (.bool ((eC s)),[.dead]):=by
 rw[aq (b:=Gn) (rs:=[.t 2]) (n:=1) rfl rfl];unfold eC;have u1:=Vx s hb;try simp at u1
 simp -implicitDefEqProofs [Gn,u1];all_goals (repeat' split)<;>first|rfl|omega|(simp_all;done)|(simp_all;omega)|skip
def UA(s:ag)(hb:s.length<=9223372036854775807):aG (ai (ev LI TT) (aj TT) zY) [(0,.str ⟨s.toArray⟩),(3,.int .i64 0)]=if aM sj (s)=true then some (.exit 0,[(0,.str ⟨s.toArray⟩),(3,.int .i64 (s).length),(7,.bool false)]) else some (.ret,[(2,.bool false)]):=by
 refine cZ (f:=ai (ev LI TT) (aj TT) zY) (s) (λi=>[(0,.str ⟨s.toArray⟩),(3,.int .i64 i)]) sj _ _ (λi b hi hl=>?_) ?_;·have hw:=aQ i (by first|omega|(simp at hl;omega));obtain⟨_,rfl⟩:=aF.1 hi;unfold sj;simp -implicitDefEqProofs [zY,Ka,hl,hw];all_goals (repeat' split)<;>first|rfl|omega|(simp_all;done)|(simp_all;omega)|skip
 ·simp -implicitDefEqProofs [zY,Ka]
def Ic(s:ag)(hb:s.length<=9223372036854775807):ev LI TT 196 [.str ⟨s.toArray⟩]=some (.bool ((eC s)),[.dead]):=by
 rw[aq (b:=Eu) (rs:=[.t 2]) (n:=1) rfl rfl];unfold eC;have u1:=UA s hb;try simp at u1
 simp -implicitDefEqProofs [Eu,u1];all_goals (repeat' split)<;>first|rfl|omega|(simp_all;done)|(simp_all;omega)|skip
def UC(s:ag)(lo:UInt8)(hb:s.length<=9223372036854775807):aG (ai (ev LI TT) (aj TT) z6) [(0,.str ⟨s.toArray⟩),(1,.int .u8 (lo.toNat:Int)),(5,.int .i64 0)]=if aM (iU lo.toNat) (s)=true then some (.exit 0,[(0,.str ⟨s.toArray⟩),(1,.int .u8 (lo.toNat:Int)),(5,.int .i64 (s).length),(9,.bool false)]) else some (.ret,[(4,.bool false)]):=by
 refine cZ (f:=ai (ev LI TT) (aj TT) z6) (s) (λi=>[(0,.str ⟨s.toArray⟩),(1,.int .u8 (lo.toNat:Int)),(5,.int .i64 i)]) (iU lo.toNat) _ _ (λi b hi hl=>?_) ?_;·have hw:=aQ i (by first|omega|(simp at hl;omega));obtain⟨_,rfl⟩:=aF.1 hi;unfold iU;simp -implicitDefEqProofs [z6,Kc,hl,hw];all_goals (repeat' split)<;>first|rfl|omega|(simp_all;done)|(simp_all;omega)|skip
 ·simp -implicitDefEqProofs [z6,Kc]
def N6(s:ag)(lo:UInt8)(hb:s.length<=9223372036854775807):ev LI TT 233 [.str ⟨s.toArray⟩,.int .u8 (lo.toNat:Int)]=some (.bool ((aM (iU lo.toNat) s)),[.dead,.dead]):=by
 rw[aq (b:=Ey) (rs:=[.t 4]) (n:=2) rfl rfl];have u1:=UC s lo hb;try simp at u1
 simp -implicitDefEqProofs [Ey,u1];all_goals (repeat' split)<;>first|rfl|omega|(simp_all;done)|(simp_all;omega)|skip
end M
namespace M
open Go
def fN(b:UInt8):Bool:=decide ¬(b.toNat:Int)=32
def Vy(s:ag)(hb:s.length<=9223372036854775807):aG (ai (ev LI TT) (aj TT) BK) [(0,.str ⟨s.toArray⟩),(3,.int .i64 0),(4,.int .i64 s.length)]=some (.exit 0,(λ(i:Nat)=>[(0,.str ⟨s.toArray⟩),(3,.int .i64 i),(4,.int .i64 s.length),(15,.bool false)]) (eE fN (s))):=by
 refine Rm (f:=ai (ev LI TT) (aj TT) BK) (s) (λi=>[(0,.str ⟨s.toArray⟩),(3,.int .i64 i),(4,.int .i64 s.length)]) fN (λ(i:Nat)=>[(0,.str ⟨s.toArray⟩),(3,.int .i64 i),(4,.int .i64 s.length),(15,.bool false)]) (λi b hi hl=>?_) ?_;·have hw:=aQ i (by first|omega|(simp at hl;omega));obtain⟨_,rfl⟩:=aF.1 hi;simp -implicitDefEqProofs [BK,LQ,hl,hw,fN];all_goals (repeat' split)<;>first|rfl|omega|(simp_all;done)|(simp_all;omega)|skip
 ·simp -implicitDefEqProofs [BK,LQ]
def Vz(s:ag)(k:Nat)(hk:k<=s.length)(hb:s.length<=9223372036854775807):aG (ai (ev LI TT) (aj TT) BL) [(0,.str ⟨s.toArray⟩),(3,.int .i64 k),(4,.int .i64 ((s.length - 0:Nat):Int))]=some (.exit 2,(λ(i:Nat)=>[(0,.str ⟨s.toArray⟩),(3,.int .i64 k),(4,.int .i64 ((s.length - i:Nat):Int)),(27,.bool false)]) (eE fN ((s.drop k).reverse))):=by
 refine Rm (f:=ai (ev LI TT) (aj TT) BL) ((s.drop k).reverse) (λi=>[(0,.str ⟨s.toArray⟩),(3,.int .i64 k),(4,.int .i64 ((s.length - i:Nat):Int))]) fN (λ(i:Nat)=>[(0,.str ⟨s.toArray⟩),(3,.int .i64 k),(4,.int .i64 ((s.length - i:Nat):Int)),(27,.bool false)]) (λi b hi hl=>?_) ?_
 ·have hw:=aQ i (by first|omega|(simp at hl;omega));obtain⟨_,rfl⟩:=aF.1 hi;simp at hl;obtain⟨m,hm⟩:∃m,s.length - i=m+1:=⟨s.length - i - 1,by omega⟩;have e1:s.length - (i+1)=m:=by omega
  have e2:IntKind.i64.wrap (m:Int)=m:=bK (by omega) (by omega);have e3:m<s.length:=by omega
  have e4:((s.drop k).reverse)[i]=s[m]:=by simp;congr 1;omega
  have e5:(k:Int)<(m:Int)+1:=by omega
  rw[e4,hm,e1];simp -implicitDefEqProofs [BL,LR,hl,hw,fN,e2,e3,e5];try (rw[cw e3];simp[e2])
  all_goals (repeat' split)<;>first|rfl|omega|(simp_all;done)|(simp_all;omega)|skip
 ·simp only[HI,uS,show s.length - (s.length - k)=k by omega];simp -implicitDefEqProofs [BL,LR]
end M
namespace M
open Go
def RA(b:UInt8):fN b=true↔b≠32:=by
 unfold fN
 have:((b.toNat:Int)=32)↔b=32:=by
  constructor;·intro h;exact sC.1 (by have e:(32:UInt8).toNat=32:=rfl;omega)
  ·rintro rfl;rfl
 simp[this]
def Tb(s:ag):Lib.trimLeftB s 32=s.drop (eE fN s):=by
 refine Lib.trimLeftB_drop s 32 _ (G6 _ _) (λj b hj hb=>?_) λb hb=>(RA b).1 (Th _ _ _ hb);have:=Ti _ _ _ _ hj hb;by_cases h:b=32;·exact h
 ·rw[(RA b).2 h] at this;cases this
def alm(s:ag):Lib.trimRightB s 32=s.take (s.length - eE fN s.reverse):=by have h:=Tb s.reverse;unfold Lib.trimLeftB at h;unfold Lib.trimRightB;rw[h,List.drop_reverse,TW]
def aln(s:ag):(s.drop (eE fN s)).take (s.length - eE fN (s.drop (eE fN s)).reverse - eE fN s)=gi s:=by rw[alo,Tb,alm,uS];congr 1;omega
def IB(s:ag)(hb:s.length<=9223372036854775807):ev LI TT 178 [.str ⟨s.toArray⟩]=some (.str ⟨(gi s).toArray⟩,[.dead]):=by
 rw[aq (b:=Gp) (rs:=[.t 2]) (n:=1) rfl rfl];have h1:=G6 fN s;have h2:=G6 fN (s.drop (eE fN s)).reverse;simp only[HI,uS] at h2;have h3:=aln s;have u1:=Vy s hb;try simp at u1
 have u2:=Vz s (eE fN s) (G6 _ _) hb;try simp at u2
 simp -implicitDefEqProofs [Gp,u1,u2,(by omega:(eE fN s:Int)<=((s.length - eE fN (s.drop (eE fN s)).reverse:Nat):Int)),(by omega:((s.length - eE fN (s.drop (eE fN s)).reverse:Nat):Int)<=s.length),Lib.extract_mk,h3];all_goals (repeat' split)<;>first|rfl|omega|(simp_all;done)|(simp_all;omega)|skip
def N4(s:ag)(hb:s.length<=9223372036854775807):ev LI TT 235 [.str ⟨s.toArray⟩]=some (.str ⟨(gi s).toArray⟩,[.dead]):=by
 rw[aq (b:=Ev) (rs:=[.t 2]) (n:=1) rfl rfl];have u1:=YO s hb;try simp at u1
 simp -implicitDefEqProofs [Ev,u1];all_goals (repeat' split)<;>first|rfl|omega|(simp_all;done)|(simp_all;omega)|skip
def VA(s:ag)(hb:s.length<=9223372036854775807):aG (ai (ev LI TT) (aj TT) BM) [(0,.str ⟨s.toArray⟩),(3,.int .i64 0)]=if aM (iU 32) (s)=true then some (.exit 0,[(0,.str ⟨s.toArray⟩),(3,.int .i64 (s).length),(7,.bool false)]) else some (.ret,[(2,.bool false)]):=by
 refine cZ (f:=ai (ev LI TT) (aj TT) BM) (s) (λi=>[(0,.str ⟨s.toArray⟩),(3,.int .i64 i)]) (iU 32) _ _ (λi b hi hl=>?_) ?_;·have hw:=aQ i (by first|omega|(simp at hl;omega));obtain⟨_,rfl⟩:=aF.1 hi;unfold iU;simp -implicitDefEqProofs [BM,LS,hl,hw];all_goals (repeat' split)<;>first|rfl|omega|(simp_all;done)|(simp_all;omega)|skip
 ·simp -implicitDefEqProofs [BM,LS]
def IC(s:ag)(hb:s.length<=9223372036854775807):ev LI TT 111 [.str ⟨s.toArray⟩]=some (.bool ((fR s)),[.dead]):=by
 rw[aq (b:=ur) (rs:=[.t 2]) (n:=1) rfl rfl];unfold fR;have u1:=VA s hb;try simp at u1
 have u2:=IB s hb;try simp at u2
 by_cases g1:aM (iU 32) s=true;rotate_left;·simp -implicitDefEqProofs [ur,u1,u2,g1]
 by_cases g2:1<=(s.length:Int);rotate_left;·simp -implicitDefEqProofs [ur,u1,u2,g1,eq_false g2]
 by_cases g3:(s.length:Int)<=60;rotate_left;·simp -implicitDefEqProofs [ur,u1,u2,g1,eq_true g2,eq_false g3]
 simp -implicitDefEqProofs [ur,u1,u2,g1,eq_true g2,eq_true g3];all_goals (repeat' split)<;>first|rfl|omega|(simp_all;done)|(simp_all;omega)|skip
def Ie(s:ag)(hb:s.length<=9223372036854775807):ev LI TT 190 [.str ⟨s.toArray⟩]=some (.bool ((fR s)),[.dead]):=by
 rw[aq (b:=tJ) (rs:=[.t 2]) (n:=1) rfl rfl];unfold fR;have e32:(32:UInt8).toNat=32:=rfl;have u1:=N6 s 32 hb;try simp at u1
 have u2:=N4 s hb;try simp at u2
 by_cases g1:1<=(s.length:Int);rotate_left;·simp -implicitDefEqProofs [tJ,u1,u2,eq_false g1]
 by_cases g2:(s.length:Int)<=60;rotate_left;·simp -implicitDefEqProofs [tJ,u1,u2,eq_true g1,eq_false g2]
 by_cases g3:aM (iU 32) s=true;rotate_left;·simp -implicitDefEqProofs [tJ,u1,u2,eq_true g1,eq_true g2,g3]
 simp -implicitDefEqProofs [tJ,u1,u2,eq_true g1,eq_true g2,g3];all_goals (repeat' split)<;>first|rfl|omega|(simp_all;done)|(simp_all;omega)|skip
def VN(s:ag)(hb:s.length<=9223372036854775807):aG (ai (ev LI TT) (aj TT) B1) [(0,.str ⟨s.toArray⟩),(3,.int .i64 0)]=if aM (iU 33) (s)=true then some (.exit 0,[(0,.str ⟨s.toArray⟩),(3,.int .i64 (s).length),(7,.bool false)]) else some (.ret,[(2,.bool false)]):=by
 refine cZ (f:=ai (ev LI TT) (aj TT) B1) (s) (λi=>[(0,.str ⟨s.toArray⟩),(3,.int .i64 i)]) (iU 33) _ _ (λi b hi hl=>?_) ?_;·have hw:=aQ i (by first|omega|(simp at hl;omega));obtain⟨_,rfl⟩:=aF.1 hi;unfold iU;simp -implicitDefEqProofs [B1,L3,hl,hw];all_goals (repeat' split)<;>first|rfl|omega|(simp_all;done)|(simp_all;omega)|skip
 ·simp -implicitDefEqProofs [B1,L3]
def IE(s:ag)(hb:s.length<=9223372036854775807):ev LI TT 105 [.str ⟨s.toArray⟩]=some (.bool ((gV s)),[.dead]):=by
 rw[aq (b:=uw) (rs:=[.t 2]) (n:=1) rfl rfl];unfold gV;have u1:=VN s hb;try simp at u1
 by_cases g1:aM (iU 33) s=true;rotate_left;·simp -implicitDefEqProofs [uw,u1,g1]
 by_cases g2:1<=(s.length:Int);rotate_left;·simp -implicitDefEqProofs [uw,u1,g1,eq_false g2]
 by_cases g3:(s.length:Int)<=60;rotate_left;·simp -implicitDefEqProofs [uw,u1,g1,eq_true g2,eq_false g3]
 obtain⟨b,hb0⟩:∃b,s[0]?=some b:=⟨s[0]'(by omega),by simp⟩;simp -implicitDefEqProofs [uw,u1,g1,eq_true g2,eq_true g3,hb0];all_goals (repeat' split)<;>first|rfl|omega|(simp_all;done)|(simp_all;omega)|skip
def Ig(s:ag)(hb:s.length<=9223372036854775807):ev LI TT 188 [.str ⟨s.toArray⟩]=some (.bool ((gV s)),[.dead]):=by
 rw[aq (b:=wg) (rs:=[.t 2]) (n:=1) rfl rfl];unfold gV;have e33:(33:UInt8).toNat=33:=rfl;have u1:=N6 s 33 hb;try simp at u1
 by_cases g1:1<=(s.length:Int);rotate_left;·simp -implicitDefEqProofs [wg,u1,eq_false g1]
 by_cases g2:(s.length:Int)<=60;rotate_left;·simp -implicitDefEqProofs [wg,u1,eq_true g1,eq_false g2]
 obtain⟨b,hb0⟩:∃b,s[0]?=some b:=⟨s[0]'(by omega),by simp⟩;by_cases h47:(b.toNat:Int)=47;all_goals
 simp -implicitDefEqProofs [wg,u1,eq_true g1,eq_true g2,hb0,h47];all_goals (repeat' split)<;>first|rfl|omega|(simp_all;done)|(simp_all;omega)|skip
@[simp] def amn(t:Int):ev LI TT 71 [.int .i64 t]=some (.bool ((decide (0<=t/\t<=1000000))),[.dead]):=by rw[aq (b:=EI) (rs:=[.t 2]) (n:=1) rfl rfl];simp -implicitDefEqProofs [EI];all_goals (repeat' split)<;>first|rfl|omega|(simp_all;done)|(simp_all;omega)|skip
def NW(n:Int):ev LI TT 228 [.int .i64 n]=some (.str ⟨(eM n).toArray⟩,[.dead]):=by
 rw[aq (b:=zN) (rs:=[.t 2]) (n:=1) rfl rfl];unfold eM;by_cases hn:0<=n/\n<=1000000;rotate_left
 ·have hf:(decide (0<=n) && decide (n<=1000000))=false:=by simp;omega
  simp -implicitDefEqProofs [zN,hn,hf]
 obtain⟨k,rfl⟩:∃k:Nat,n=k:=⟨n.toNat,by omega⟩;have u1:=sO k (by omega);try simp at u1
 simp -implicitDefEqProofs [zN,u1,hn];all_goals (repeat' split)<;>first|rfl|omega|(simp_all;done)|(simp_all;omega)|skip
end M
namespace M
open Go
def Vm(s:ag)(hb:s.length<=1073741824):aG (ai (ev LI TT) (aj TT) ug) [(0,.str ⟨s.toArray⟩),(3,.row .own 1 (([]).map eU)),(4,.int .i64 0)]=some (.exit 0,[(0,.str ⟨s.toArray⟩),(3,.row .own 1 ((((s).flatMap (λb=>[nk b]))).map eU)),(4,.int .i64 (s).length),(10,.bool false)]):=by
 refine FC (f:=ai (ev LI TT) (aj TT) ug) (s) (λb=>[nk b]) (λi out=>[(0,.str ⟨s.toArray⟩),(3,.row .own 1 ((out).map eU)),(4,.int .i64 i)]) (λout=>[(0,.str ⟨s.toArray⟩),(3,.row .own 1 ((out).map eU)),(4,.int .i64 (s).length),(10,.bool false)]) (λi b out hi hl hout=>?_) (λout hout=>?_)
 ·have hw:=aQ i (by first|omega|(simp at hl;omega));obtain⟨_,rfl⟩:=aF.1 hi;have hlo:out.length=i:=by rw[hout];exact PA _ _ _ (by omega)
  have hx:=s[i].toNat_lt;unfold nk;by_cases h1:65<=(s[i]).toNat;rotate_left
  ·have h1':¬(65:Int)<=(s[i]).toNat:=by omega
   simp -implicitDefEqProofs [ug,Bz,hl,hw,h1,h1',hlo,dB];omega
  by_cases h2:(s[i]).toNat<=90;rotate_left
  ·have h1':(65:Int)<=(s[i]).toNat:=by omega
   have gL:¬((s[i]).toNat:Int)<=90:=by omega
   have Jv:90<((s[i]).toNat:Int):=by omega
   simp -implicitDefEqProofs [ug,Bz,hl,hw,h1,h1',h2,gL,Jv,hlo,dB];omega
  have h1':(65:Int)<=(s[i]).toNat:=by omega
  have gL:((s[i]).toNat:Int)<=90:=by omega
  have h3:=Rn s[i] ⟨h1,h2⟩;have h4:IntKind.u8.wrap ((s[i]).toNat+32)=(s[i]).toNat+32:=Tw (by omega) (by omega);simp -implicitDefEqProofs [ug,Bz,hl,hw,h1,h1',h2,gL,hlo,dB,h3,h4];omega
 ·simp -implicitDefEqProofs [ug,Bz]
def Oi(s:ag)(hb:s.length<=1073741824):ev LI TT 177 [.str ⟨s.toArray⟩]=some (.str ⟨(ct s).toArray⟩,[.dead]):=by
 rw[aq (b:=Gf) (rs:=[.t 2]) (n:=1) rfl rfl];have hl:(ct s).length=s.length:=by simp[ct]
 have e:s.flatMap (λb=>[nk b])=ct s:=Ji nk s;have u1:=Vm s hb;try simp at u1
 simp -implicitDefEqProofs [Gf,u1,e,hl,rowAt,(by omega:s.length<=9223372036854775807)];all_goals (repeat' split)<;>first|rfl|omega|(simp_all;done)|(simp_all;omega)|skip
def ahp(s:ag)(i:Nat)(h:i<s.length)(x:UInt8)(hx:x=nk s[i]):(ct (s.take i)++s.drop i).set i x=ct (s.take (i+1))++s.drop (i+1):=by
 subst hx;rw[Hu _ _ (by simp[ct];omega),ql h];have:i - (ct (s.take i)).length=0:=by simp[ct];omega
 rw[this,oI h];simp only[CB,ct,jq,bD,mD,mE,dw,eN]
def SK(s:ag)(i:Nat)(h:i<s.length)(hx:nk s[i]=s[i]):ct (s.take i)++s.drop i=ct (s.take (i+1))++s.drop (i+1):=by rw[oI h,ql h];simp only[ct,hx,jq,bD,mD,mE,dw,eN]
def Zv(l:ag)(i:Nat)(x:Int)(b:UInt8)(hx:x=(b.toNat:Int)):(l.map eU).modify i (λe=>e.set 0 (X.int .u8 x))=(l.set i b).map eU:=by
 subst hx;apply hO;intro j;rw[uR,cY,cY,yh];by_cases h:i=j
 ·subst h;by_cases h2:i<l.length;·simp[h2]
  ·simp[h2,kL (Nat.le_of_not_lt h2)]
 ·simp only[h,cT];cases l[j]?<;>rfl
def Ut(s:ag)(hb:s.length<=1073741824):aG (ai (ev LI TT) (aj TT) tF) [(3,.row .own 1 ((ct (s.take 0)++s.drop 0).map eU)),(6,.str ⟨s.toArray⟩),(8,.ref 3 []),(9,.int .i64 s.length),(10,.int .i64 0)]=some (.exit 0,[(3,.row .own 1 ((ct s).map eU)),(6,.str ⟨s.toArray⟩),(8,.ref 3 []),(9,.int .i64 s.length),(10,.int .i64 (s).length),(11,.bool false)]):=by
 refine nj (f:=ai (ev LI TT) (aj TT) tF) (s) (λi=>[(3,.row .own 1 ((ct (s.take i)++s.drop i).map eU)),(6,.str ⟨s.toArray⟩),(8,.ref 3 []),(9,.int .i64 s.length),(10,.int .i64 i)]) _ (λi b hi hl=>?_) ?_
 ·have hw:=aQ i (by first|omega|(simp at hl;omega));obtain⟨_,rfl⟩:=aF.1 hi;have hk:(ct (s.take i)++s.drop i).length=s.length:=by simp[ct];omega
  have hx:=s[i].toNat_lt;have hg:(ct (s.take i)++s.drop i)[i]?=some s[i]:=by rw[iC (by simp[ct];omega)];simp[ct,lF (Nat.le_of_lt hl)]
  have hg':∀h,(ct (s.take i)++s.drop i)[i]'h=s[i]:=λh=>by rw[cw h] at hg;exact gZ hg
  generalize hq:ct (s.take i)++s.drop i=q at hk hg hg'⊢;have tf:i<q.length:=by omega
  by_cases h1:65<=(s[i]).toNat;rotate_left
  ·have h1':¬(65:Int)<=(s[i]).toNat:=by omega
   have e:=SK s i hl (by unfold nk;rw[aD (by omega)]);rw[hq] at e;simp -implicitDefEqProofs [tF,zM,hl,hw,hg,hg',tf,h1',<-e]
  by_cases h2:(s[i]).toNat<=90;rotate_left
  ·have h1':(65:Int)<=(s[i]).toNat:=by omega
   have Jv:90<((s[i]).toNat:Int):=by omega
   have gL:¬((s[i]).toNat:Int)<=90:=by omega
   have e:=SK s i hl (by unfold nk;rw[aD (by omega)]);rw[hq] at e;simp -implicitDefEqProofs [tF,zM,hl,hw,hg,hg',tf,h1',gL,Jv,<-e]
  have h1':(65:Int)<=(s[i]).toNat:=by omega
  have gL:((s[i]).toNat:Int)<=90:=by omega
  have h3:=Rn s[i] ⟨h1,h2⟩;have h4:IntKind.u8.wrap ((s[i]).toNat+32)=(s[i]).toNat+32:=Tw (by omega) (by omega);have e:=ahp s i hl (s[i]+32) (by unfold nk;rw[ay ⟨h1,h2⟩]);rw[hq] at e;have e2:=Zv q i _ (s[i]+32) (show ((s[i]).toNat:Int)+32=_ by rw[h3];rfl);rw[e] at e2;simp -implicitDefEqProofs [tF,zM,hl,hw,hg,hg',tf,h1',gL,h4,e2];all_goals (repeat' split)<;>first|rfl|omega|(simp_all;done)|(simp_all;omega)|skip
 ·simp only[uH,List.drop_length,lH];simp -implicitDefEqProofs [tF,zM]
def NV(s:ag)(hb:s.length<=1073741824):ev LI TT 237 [.str ⟨s.toArray⟩]=some (.str ⟨(ct s).toArray⟩,[.dead]):=by
 rw[aq (b:=Ej) (rs:=[.t 2]) (n:=1) rfl rfl];have hl:(ct s).length=s.length:=by simp[ct]
 have e0:ct (s.take 0)++s.drop 0=s:=by simp[ct]
 have u1:=Ut s hb;try simp at u1
 simp -implicitDefEqProofs [Ej,u1,hl,rowAt,(by omega:s.length<=9223372036854775807)];all_goals (repeat' split)<;>first|rfl|omega|(simp_all;done)|(simp_all;omega)|skip
@[simp] def amr(x:Int)(y:Int):ev LI TT 93 [.int .i64 x,.int .i64 y]=some (.int .i64 ((if x<y then x else y)),[.dead,.dead]):=by rw[aq (b:=GC) (rs:=[.t 4]) (n:=2) rfl rfl];simp -implicitDefEqProofs [GC];all_goals (repeat' split)<;>first|rfl|omega|(simp_all;done)|(simp_all;omega)|skip
@[simp] def amq(x:Int)(y:Int):ev LI TT 57 [.int .i64 x,.int .i64 y]=some (.int .i64 ((if y<x then x else y)),[.dead,.dead]):=by rw[aq (b:=GB) (rs:=[.t 4]) (n:=2) rfl rfl];simp -implicitDefEqProofs [GB];all_goals (repeat' split)<;>first|rfl|omega|(simp_all;done)|(simp_all;omega)|skip
end M
namespace M
open Go
def Vp(n:Nat)(out:ag)(hn:out.length+n<=9223372036854775807):aG (ai (ev LI TT) (aj TT) LJ) [(0,.int .i64 n),(3,.str ⟨out.toArray⟩)]=some (.exit 0,[(0,.int .i64 0),(3,.str ⟨(pP n out).toArray⟩),(10,.bool false)]):=by
 have hs:∀s,ai (ev LI TT) (aj TT) LJ s=ai (ev LI TT) (aj TT) Gh s:=λ_=>rfl;induction n using Nat.strongRecOn generalizing out with
 |ind n ih=>
  rw[dY,hs];unfold pP;by_cases h:n=0;·subst h;simp -implicitDefEqProofs [Gh]
  ·have hp:0<n:=by omega
   have:=ih (n / 10) (by omega) (UInt8.ofNat (48+n%10)::out) (by rw[cR];omega);have e1:((n:Int)).tmod 10=((n%10:Nat):Int):=by rw[HB (by omega)];omega
   have e4:((n:Int)).tdiv 10=((n / 10:Nat):Int):=by rw[T7 (by omega)];omega
   have e2:IntKind.i64.wrap (48+((n%10:Nat):Int))=((48+n%10:Nat):Int):=by rw[bK (by omega) (by omega)];omega
   have e3:IntKind.u8.wrap ((48+n%10:Nat):Int)=((48+n%10:Nat):Int):=Mx (by omega) (by omega);have e5:=Tg (48+n%10) (by omega);have e6:IntKind.i64.wrap ((n / 10:Nat):Int)=((n / 10:Nat):Int):=bK (by omega) (by omega);simp only[h,dite_false];rw[<-this];simp -implicitDefEqProofs [Gh,hp,wU,e1,e2,e3,e4,e5,e6,-Int.natCast_emod,-Int.natCast_ediv,-Int.natCast_add,-UInt8.ofNat_add,iP,(by omega:1+out.length<=9223372036854775807)]
def vm(n:Int):ev LI TT 122 [.int .i64 n]=some (.str ⟨(eM n).toArray⟩,[.dead]):=by
 rw[aq (b:=xu) (rs:=[.t 2]) (n:=1) rfl rfl];unfold eM;by_cases hn:0<=n/\n<=1000000;rotate_left
 ·have hf:(decide (0<=n) && decide (n<=1000000))=false:=by simp;omega
  simp -implicitDefEqProofs [xu,hn,hf]
 obtain⟨k,rfl⟩:∃k:Nat,n=k:=⟨n.toNat,by omega⟩;by_cases h:k=0;·subst h;simp -implicitDefEqProofs [xu,Dk]
 have h1:=Vp k [] (by simp;omega);rw[Rs k [] h,lH] at h1;simp -implicitDefEqProofs [xu,hn,h,h1];all_goals (repeat' split)<;>first|rfl|omega|(simp_all;done)|(simp_all;omega)|skip
def FQ(n:Int):(eM n).length<=7:=by
 unfold eM;split;·exact sZ _ (by omega)
 ·simp
def Vn(s:ag)(hb:s.length<=7)(hd:aM ic s=true)(g:Nat)(hinv:g<10^0):aG (ai (ev LI TT) (aj TT) nE) [(0,.str ⟨s.toArray⟩),(4,.int .i64 (g:Nat)),(5,.int .i64 0)]=some (.exit 0,[(0,.str ⟨s.toArray⟩),(4,.int .i64 ((foldI (λ_ g b=>10*g+b.toNat - 48) 0 (s) g):Nat)),(5,.int .i64 (s).length),(16,.bool false)]):=by
 refine iu (f:=ai (ev LI TT) (aj TT) nE) (s) (λi (g:Nat)=>[(0,.str ⟨s.toArray⟩),(4,.int .i64 (g:Nat)),(5,.int .i64 i)]) (λ_ g b=>10*g+b.toNat - 48) (λg=>[(0,.str ⟨s.toArray⟩),(4,.int .i64 (g:Nat)),(5,.int .i64 (s).length),(16,.bool false)]) (λi (g:Nat)=>g<10^i) g hinv (λi b g hi hl hinv=>?_) (λi b g hi hinv=>?_) (λg hinv=>?_)
 ·have hw:=aQ i (by first|omega|(simp at hl;omega));obtain⟨_,rfl⟩:=aF.1 hi;have hx:=iX.1 hd s[i] (bx hl);simp only[ic,bz] at hx;have hp:10^i<=10^6:=T5 (by omega) (by omega);have h1:¬((s[i]).toNat:Int)<48:=by omega
  have h2:¬57<((s[i]).toNat:Int):=by omega
  have e1:IntKind.i64.wrap (10*(g:Int))=10*g:=bK (by omega) (by omega);have e0:IntKind.i64.wrap ((s[i]).toNat:Int)=(s[i]).toNat:=bK (by omega) (by omega);have e2:IntKind.i64.wrap (10*(g:Int)+(s[i]).toNat)=10*g+(s[i]).toNat:=bK (by omega) (by omega);have e3:IntKind.i64.wrap (10*(g:Int)+(s[i]).toNat - 48)=((10*g+(s[i]).toNat - 48:Nat):Int):=by rw[bK (by omega) (by omega)];omega
  simp -implicitDefEqProofs [nE,um,hl,hw,h1,h2,e0,e1,e2,e3]
 ·obtain⟨hl,rfl⟩:=aF.1 hi;have hx:=iX.1 hd s[i] (bx hl);simp only[ic,bz] at hx;rw[Hx];omega
 ·simp -implicitDefEqProofs [nE,um]
def Vo(s:ag)(hb:s.length<=7)(hd:¬aM ic s=true):aG (ai (ev LI TT) (aj TT) nE) [(0,.str ⟨s.toArray⟩),(4,.int .i64 0),(5,.int .i64 0)]=some (.ret,[(2,.int .i64 0),(3,.bool false)]):=by
 have key:=FE (xt:=0) (f:=ai (ev LI TT) (aj TT) nE) s (λi (g:Nat)=>[(0,.str ⟨s.toArray⟩),(4,.int .i64 (g:Int)),(5,.int .i64 i)]) (λb g=>if ic b=true then .inl (10*g+b.toNat - 48) else .inr (.ret,[(2,.int .i64 0),(3,.bool false)])) (λg=>[(0,.str ⟨s.toArray⟩),(4,.int .i64 (g:Int)),(5,.int .i64 s.length),(16,.bool false)]) (λi g=>g<10^i) 0 (by decide) (λi b g hi hl hinv=>?_) (λi b g g' hi hinv hg=>?_) (λg hg=>?_)
 ·have hr:∀(r:ag) (g:Nat),¬aM ic r=true->mw (λ(b:UInt8) (g:Nat)=>if ic b=true then (.inl (10*g+b.toNat - 48):Nat ⊕ (Ex×ah)) else .inr (.ret,[(2,.int .i64 0),(3,.bool false)])) r g=.inr (.ret,[(2,.int .i64 0),(3,.bool false)]):=by
   intro r;induction r with
   |nil=>intro g h;exact absurd rfl h
   |cons b r ih=>
    intro g h;simp only[mw];by_cases hb:ic b=true;·simp only[hb,cG];exact ih _ λh'=>h (by rw[iX] at h'⊢;intro x hx;rcases bZ.1 hx with rfl|hx;exact hb;exact h' x hx)
    ·simp[hb]
  rw[hr s 0 hd] at key;simpa [lv] using key
 ·have hw:=aQ i (by omega);obtain⟨_,rfl⟩:=aF.1 hi;by_cases h:ic s[i]=true
  ·have hx:=h;simp only[ic,bz] at hx;have hp:10^i<=10^6:=T5 (by omega) (by omega);have h1:¬((s[i]).toNat:Int)<48:=by omega
   have h2:¬57<((s[i]).toNat:Int):=by omega
   have e1:IntKind.i64.wrap (10*(g:Int))=10*g:=bK (by omega) (by omega);have e0:IntKind.i64.wrap ((s[i]).toNat:Int)=(s[i]).toNat:=bK (by omega) (by omega);have e2:IntKind.i64.wrap (10*(g:Int)+(s[i]).toNat)=10*g+(s[i]).toNat:=bK (by omega) (by omega);have e3:IntKind.i64.wrap (10*(g:Int)+(s[i]).toNat - 48)=((10*g+(s[i]).toNat - 48:Nat):Int):=by rw[bK (by omega) (by omega)];omega
   simp -implicitDefEqProofs [nE,um,hl,hw,h,h1,h2,e0,e1,e2,e3]
  ·have hx:=h;simp only[ic,bz] at hx;by_cases h1:((s[i]).toNat:Int)<48;·simp -implicitDefEqProofs [nE,um,hl,hw,h,h1,lv]
   ·have h2:57<((s[i]).toNat:Int):=by omega
    simp -implicitDefEqProofs [nE,um,hl,hw,h,h1,h2,lv]
 ·obtain⟨hl,rfl⟩:=aF.1 hi;split at hg
  ·rename_i hx;simp only[ic,bz] at hx;injection hg with hg
   rw[Hx];omega
  ·cases hg
 ·simp -implicitDefEqProofs [nE,um]
def Jl{β γ:Type}(go:γ->β->γ):∀(l:List β) (i:Nat) (g:γ),foldI (λ_ g b=>go g b) i l g=l.foldl go g
 |[],_,_=>rfl
 |b::l,i,g=>by rw[foldI,Jl go l,qm]
def vl(s:ag)(hb:s.length<=9223372036854775807):ev LI TT 118 [.str ⟨s.toArray⟩]=some (.au [.int .i64 ((((bq s).getD 0:Nat):Int)),.bool ((bq s).isSome)],[.dead]):=by
 rw[aq (b:=rV) (rs:=[.t 2,.t 3]) (n:=1) rfl rfl];by_cases h7:7<s.length
 ·have yZ:7<(s.length:Int):=by omega
  have hn:¬s=[]:=by rintro rfl;simp at h7
  simp -implicitDefEqProofs [rV,RB s h7,yZ,hn]
 have yZ:¬7<(s.length:Int):=by omega
 rw[afM s (by omega)];by_cases h0:s=[];·subst h0;simp -implicitDefEqProofs [rV]
 by_cases hd:aM ic s=true;rotate_left;·have u1:=Vo s (by omega) hd;simp -implicitDefEqProofs [rV,yZ,h0,hd,u1]
 have u1:=Vn s (by omega) hd 0 (by decide);rw[show foldI (λ_ (g:Nat) (b:UInt8)=>10*g+b.toNat - 48) 0 s 0=lC s from Jl _ s 0 0] at u1;simp only[Int.ofNat_zero] at u1;have u2:=vm (lC s);by_cases ht:eM (lC s)=s;rotate_left;·simp -implicitDefEqProofs [rV,yZ,h0,hd,u1,u2,eq_false ht]
 simp -implicitDefEqProofs [rV,yZ,h0,hd,u1,u2,eq_true ht];all_goals (repeat' split)<;>first|rfl|omega|(simp_all;done)|(simp_all;omega)|skip
end M
namespace M
open Go
def jI(w:ag):List ag:=if gi w≠[] then [gi w] else []
def RT(s:ag)(i:Nat)(h:i<(s.map some++[none]).length):(∃hi:i<s.length,(s.map some++[none])[i]=some s[i])\/(i=s.length/\(s.map some++[none])[i]=none):=by
 by_cases hi:i<s.length;·refine .inl ⟨hi,?_⟩;rw[List.getElem_append_left (by simpa using hi)];simp
 ·simp at h;obtain rfl:i=s.length:=by omega
  refine .inr ⟨rfl,?_⟩;rw[List.getElem_append_right (by simp)];simp
def SO(w:ag):(jI w).length<=1:=by unfold jI;split<;>simp
def P0(c:UInt8)(f:ag->List ag)(hf:∀w,(f w).length<=1)(s:ag)(i:Nat)(g:List ag×Nat)(b:Option UInt8)(h:g.2<=i/\g.1.length<=i):(fW c f s i g b).2<=i+1/\(fW c f s i g b).1.length<=i+1:=by
 unfold fW;have:=hf ((s.take i).drop g.2);split
 ·split;·simp;omega
  ·omega
 ·simp;omega
def Vv(s:ag)(hb:s.length<=1073741824)(g:List ag×Nat)(hinv:g.2<=0/\g.1.length<=0):aG (ai (ev LI TT) (aj TT) p8) [(0,.str ⟨s.toArray⟩),(3,.row .own 1 ((g).1.map eS)),(4,.int .i64 ((g).2:Nat)),(5,.int .i64 0)]=some (.exit 0,[(0,.str ⟨s.toArray⟩),(3,.row .own 1 (((foldI (fW 44 jI s) 0 (s.map some++[none]) g)).1.map eS)),(4,.int .i64 (((foldI (fW 44 jI s) 0 (s.map some++[none]) g)).2:Nat)),(5,.int .i64 (s.map some++[none]).length),(11,.bool false)]):=by
 refine iu (f:=ai (ev LI TT) (aj TT) p8) (s.map some++[none]) (λi (g:List ag×Nat)=>[(0,.str ⟨s.toArray⟩),(3,.row .own 1 ((g).1.map eS)),(4,.int .i64 ((g).2:Nat)),(5,.int .i64 i)]) (fW 44 jI s) (λg=>[(0,.str ⟨s.toArray⟩),(3,.row .own 1 ((g).1.map eS)),(4,.int .i64 ((g).2:Nat)),(5,.int .i64 (s.map some++[none]).length),(11,.bool false)]) (λi (g:List ag×Nat)=>g.2<=i/\g.1.length<=i) g hinv (λi b g hi hl hinv=>?_) (λi b g hi hinv=>?_) (λg hinv=>?_)
 ·have hw:=aQ i (by first|omega|(simp at hl;omega));obtain⟨_,rfl⟩:=aF.1 hi;have hlz:(g.1.length+1)*16<=140737488355328:=by simp at hl;omega
  have yY:∀b:UInt8,((b.toNat:Int)=44)↔b=44:=λb=>⟨λh=>sC.1 (by have e:(44:UInt8).toNat=44:=rfl;omega),λh=>by subst h;rfl⟩;rcases RT s i hl with ⟨hi',e⟩|⟨rfl,e⟩
  ·rw[e];have k1:(i:Int)<=s.length:=by omega
   have k2:i<=s.length:=by omega
   have hc:=IB ((s.drop g.2).take (i - g.2)) (by simp;omega);by_cases hx:s[i]=44;rotate_left;·have hx':=mt (yY s[i]).1 hx;simp -implicitDefEqProofs [p8,uq,k1,k2,hi',hw,fW,hx,hx']
   have hx':=(yY s[i]).2 hx;have e3:(s.take i).drop g.2=(s.drop g.2).take (i - g.2):=ye ..;by_cases ht:gi ((s.drop g.2).take (i - g.2))=[];·simp -implicitDefEqProofs [p8,uq,k1,k2,hi',hw,fW,eq_true hx,hx',hinv,hc,Lib.extract_mk,jI,e3,eq_true ht]
   ·simp -implicitDefEqProofs [p8,uq,k1,k2,hi',hw,fW,eq_true hx,hx',hinv,hc,Lib.extract_mk,jI,e3,eq_false ht,dB,hlz]
  rw[e];have hc:=IB ((s.drop g.2).take (s.length - g.2)) (by simp;omega);have e3:(s.take s.length).drop g.2=(s.drop g.2).take (s.length - g.2):=ye ..;by_cases ht:gi ((s.drop g.2).take (s.length - g.2))=[];·simp only[fW,e3,jI,eq_true ht];simp -implicitDefEqProofs [p8,uq,hw,hinv,hc,Lib.extract_mk,eq_true ht]
  simp only[fW,e3,jI,eq_false ht];simp -implicitDefEqProofs [p8,uq,hl,hw,hinv,hc,Lib.extract_mk,eq_false ht,dB,hlz]
 ·exact P0 44 jI SO s i g b hinv
 ·have JG:¬((s.length:Int)+1<=s.length):=by omega
  simp -implicitDefEqProofs [p8,uq,JG]
def Oo(s:ag)(hb:s.length<=1073741824):ev LI TT 176 [.str ⟨s.toArray⟩]=some (.row .own 1 ((iA s).map eS),[.dead]):=by rw[aq (b:=Gl) (rs:=[.t 2]) (n:=1) rfl rfl];have u1:=Vv s hb ([],0) ⟨by omega,by simp⟩;rw[PL,show (bu 44 s).flatMap jI=iA s from (Tu s).symm] at u1;simp at u1;simp -implicitDefEqProofs [Gl,u1];all_goals (repeat' split)<;>first|rfl|omega|(simp_all;done)|(simp_all;omega)|skip
def Uy(s:ag)(ws:List ag)(hb:∀w∈ws,w.length<=1073741824)(hl0:ws.length<=1073741825):aG (ai (ev LI TT) (aj TT) vW) [(3,.row .own 1 (([]).map eS)),(8,.row .own 1 (ws.map eS)),(9,.int .i64 ws.length),(10,.int .i64 0)]=some (.exit 0,[(3,.row .own 1 ((((ws).flatMap jI)).map eS)),(8,.row .own 1 (ws.map eS)),(9,.int .i64 ws.length),(10,.int .i64 (ws).length),(11,.bool false)]):=by
 refine FC (f:=ai (ev LI TT) (aj TT) vW) (ws) jI (λi out=>[(3,.row .own 1 ((out).map eS)),(8,.row .own 1 (ws.map eS)),(9,.int .i64 ws.length),(10,.int .i64 i)]) (λout=>[(3,.row .own 1 ((out).map eS)),(8,.row .own 1 (ws.map eS)),(9,.int .i64 ws.length),(10,.int .i64 (ws).length),(11,.bool false)]) (λi b out hi hl hout=>?_) (λout hout=>?_)
 ·have hw:=aQ i (by first|omega|(simp at hl;omega));obtain⟨_,rfl⟩:=aF.1 hi;have hlo:out.length<=i:=by rw[hout];exact Pz jI SO ws i
  have hlz:(out.length+1)*16<=140737488355328:=by omega
  have hc:=N4 ws[i] (by have:=hb _ (bx hl);omega);unfold jI;by_cases ht:gi ws[i]=[];·simp -implicitDefEqProofs [vW,Er,hl,hw,hc,eq_true ht]
  simp -implicitDefEqProofs [vW,Er,hl,hw,hc,eq_false ht,dB,hlz]
 ·simp -implicitDefEqProofs [vW,Er]
def N3(s:ag)(hb:s.length<=1073741824):ev LI TT 236 [.str ⟨s.toArray⟩]=some (.row .own 1 ((iA s).map eS),[.dead]):=by
 rw[aq (b:=Es) (rs:=[.t 2]) (n:=1) rfl rfl];rw[Tu s,show (λw=>if gi w≠[] then [gi w] else [])=jI from rfl];have u1:=sP s 44 (by omega);try simp at u1
 have u2:=Uy s (bu 44 s) (λw hw=>by have:=oF 44 s w hw;omega) (by have:=SQ 44 s;omega);try simp at u2
 simp -implicitDefEqProofs [Es,u1,u2];all_goals (repeat' split)<;>first|rfl|omega|(simp_all;done)|(simp_all;omega)|skip
def VQ(l:List ag)(hl0:l.length<=1073741824)(hb:∀w∈l,w.length<=1073741824):aG (ai (ev LI TT) (aj TT) B3) [(0,.row .af 1 (l.map eS)),(3,.int .i64 0)]=if aM eC (l)=true then some (.exit 0,[(0,.row .af 1 (l.map eS)),(3,.int .i64 (l).length),(7,.bool false)]) else some (.ret,[(2,.bool false)]):=by
 refine cZ (f:=ai (ev LI TT) (aj TT) B3) (l) (λi=>[(0,.row .af 1 (l.map eS)),(3,.int .i64 i)]) eC _ _ (λi b hi hl=>?_) ?_
 ·have hw:=aQ i (by first|omega|(simp at hl;omega));obtain⟨_,rfl⟩:=aF.1 hi;have u1:=IA l[i] (by have:=hb _ (bx hl);omega);try simp at u1
  simp -implicitDefEqProofs [B3,L4,hl,hw,u1];all_goals (repeat' split)<;>first|rfl|omega|(simp_all;done)|(simp_all;omega)|skip
 ·simp -implicitDefEqProofs [B3,L4]
def YC(l:List ag)(hl0:l.length<=1073741824)(hb:∀w∈l,w.length<=1073741824):ev LI TT 108 [.row .af 1 (l.map eS)]=some (.bool ((aM eC l && decide ((l.length:Int)<=4))),[.dead]):=by
 rw[aq (b:=GI) (rs:=[.t 2]) (n:=1) rfl rfl];have u1:=VQ l hl0 hb;try simp at u1
 simp -implicitDefEqProofs [GI,u1];all_goals (repeat' split)<;>first|rfl|omega|(simp_all;done)|(simp_all;omega)|skip
def UI(l:List ag)(hl0:l.length<=1073741824)(hb:∀w∈l,w.length<=1073741824):aG (ai (ev LI TT) (aj TT) Aa) [(0,.row .af 1 (l.map eS)),(5,.row .af 1 (l.map eS)),(6,.int .i64 l.length),(7,.int .i64 0)]=if aM eC (l)=true then some (.exit 0,[(0,.row .af 1 (l.map eS)),(5,.row .af 1 (l.map eS)),(6,.int .i64 l.length),(7,.int .i64 (l).length),(8,.bool false)]) else some (.ret,[(2,.bool false)]):=by
 refine cZ (f:=ai (ev LI TT) (aj TT) Aa) (l) (λi=>[(0,.row .af 1 (l.map eS)),(5,.row .af 1 (l.map eS)),(6,.int .i64 l.length),(7,.int .i64 i)]) eC _ _ (λi b hi hl=>?_) ?_
 ·have hw:=aQ i (by first|omega|(simp at hl;omega));obtain⟨_,rfl⟩:=aF.1 hi;have u1:=Ic l[i] (by have:=hb _ (bx hl);omega);try simp at u1
  simp -implicitDefEqProofs [Aa,Kf,hl,hw,u1];all_goals (repeat' split)<;>first|rfl|omega|(simp_all;done)|(simp_all;omega)|skip
 ·simp -implicitDefEqProofs [Aa,Kf]
def Xf(l:List ag)(hl0:l.length<=1073741824)(hb:∀w∈l,w.length<=1073741824):ev LI TT 191 [.row .af 1 (l.map eS)]=some (.bool ((aM eC l && decide ((l.length:Int)<=4))),[.dead]):=by
 rw[aq (b:=EN) (rs:=[.t 2]) (n:=1) rfl rfl];have u1:=UI l hl0 hb;try simp at u1
 simp -implicitDefEqProofs [EN,u1];all_goals (repeat' split)<;>first|rfl|omega|(simp_all;done)|(simp_all;omega)|skip
end M
namespace M
open Go
def VJ(fs:List aJ)(n:ag)(hb:fs.length<=9223372036854775807):aG (ai (ev LI TT) (aj TT) BW) [(0,.row .af 2 (fs.map aK)),(1,.str ⟨n.toArray⟩),(5,.int .i64 0)]=(cU (λf=>decide (f.name=n)) 0 (fs)).elim (some (.exit 0,[(0,.row .af 2 (fs.map aK)),(1,.str ⟨n.toArray⟩),(5,.int .i64 (fs).length),(9,.bool false)])) λx=>some (.ret,(λ(i:Nat) b=>[(4,.int .i64 i)]) x.1 x.2):=by
 refine rI (f:=ai (ev LI TT) (aj TT) BW) (fs) (λi=>[(0,.row .af 2 (fs.map aK)),(1,.str ⟨n.toArray⟩),(5,.int .i64 i)]) (λf=>decide (f.name=n)) (λ(i:Nat) b=>[(4,.int .i64 i)]) _ (λi b hi hl=>?_) ?_;·have hw:=aQ i (by first|omega|(simp at hl;omega));obtain⟨_,rfl⟩:=aF.1 hi;simp -implicitDefEqProofs [BW,L2,hl,hw]
 ·simp -implicitDefEqProofs [BW,L2]
def Ov(fs:List aJ)(n:ag)(hb:fs.length<=9223372036854775807):ev LI TT 174 [.row .af 2 (fs.map aK),.str ⟨n.toArray⟩]=some (.int .i64 (j8 (jO fs n)),[.dead,.dead]):=by
 rw[aq (b:=BX) (rs:=[.t 4]) (n:=2) rfl rfl];have h:=VJ fs n hb;rw[show cU (λf=>decide (f.name=n)) 0 fs=jO fs n from rfl] at h;simp at h;cases g:jO fs n with
 |none=>rw[g] at h;simp at h;simp -implicitDefEqProofs [BX,h,j8]
 |some x=>
 rw[g] at h;simp at h;simp -implicitDefEqProofs [BX,h,j8];all_goals (repeat' split)<;>first|rfl|omega|(simp_all;done)|(simp_all;omega)|skip
def Iw(fs:List aJ)(n:ag)(hb:fs.length<=9223372036854775807):ev LI TT 175 [.row .af 2 (fs.map aK),.str ⟨n.toArray⟩]=some (.au [.str ⟨((ei fs n).getD []).toArray⟩,.bool (ei fs n).isSome],[.dead,.dead]):=by
 rw[aq (b:=Bv) (rs:=[.t 4,.t 5]) (n:=2) rfl rfl];have h:=Ov fs n hb;unfold ei;cases g:jO fs n with
 |none=>rw[g] at h;simp[j8] at h;simp -implicitDefEqProofs [Bv,h]
 |some x=>
 obtain⟨i,b⟩:=x;rw[g] at h;obtain⟨h1,h2,h3⟩:=qR g;simp at h2;simp[j8] at h;have hi:i<fs.length:=(aF.1 h2).1;obtain⟨_,rfl⟩:=aF.1 h2;simp -implicitDefEqProofs [Bv,h,hi];all_goals (repeat' split)<;>first|rfl|omega|(simp_all;done)|(simp_all;omega)|skip
def Xb(f:aJ)(n:ag):ev LI TT 258 [.agg (aK f),.ptr .af [.str ⟨n.toArray⟩]]=some (.bool (decide (f.name=n)),[.dead,.dead]):=by rw[aq (b:=EB) (rs:=[.t 3]) (n:=2) rfl rfl];simp -implicitDefEqProofs [EB];all_goals (repeat' split)<;>first|rfl|omega|(simp_all;done)|(simp_all;omega)|skip
def VU(fs:List aJ)(n:ag)(hb:fs.length<=9223372036854775807):aG (ai (ev LI TT) (aj TT) Ct) [(0,.row .af 2 (fs.map aK)),(1,.fn 258 [.ptr .af [.str ⟨n.toArray⟩]]),(7,.int .i64 fs.length),(8,.int .i64 0)]=(cU (λf=>decide (f.name=n)) 0 (fs)).elim (some (.exit 0,[(0,.row .af 2 (fs.map aK)),(1,.fn 258 [.ptr .af [.str ⟨n.toArray⟩]]),(7,.int .i64 fs.length),(8,.int .i64 (fs).length),(9,.bool false)])) λx=>some (.ret,(λ(i:Nat) b=>[(4,.int .i64 i)]) x.1 x.2):=by
 refine rI (f:=ai (ev LI TT) (aj TT) Ct) (fs) (λi=>[(0,.row .af 2 (fs.map aK)),(1,.fn 258 [.ptr .af [.str ⟨n.toArray⟩]]),(7,.int .i64 fs.length),(8,.int .i64 i)]) (λf=>decide (f.name=n)) (λ(i:Nat) b=>[(4,.int .i64 i)]) _ (λi b hi hl=>?_) ?_;·have hw:=aQ i (by first|omega|(simp at hl;omega));obtain⟨_,rfl⟩:=aF.1 hi;have ho:aj TT 258=true:=rfl;have hf:=Xb fs[i] n;simp at hf;simp -implicitDefEqProofs [Ct,MB,hl,hw,ho,wj,hf]
 ·simp -implicitDefEqProofs [Ct,MB]
def YG(fs:List aJ)(n:ag)(hb:fs.length<=9223372036854775807):ev LI TT 257 [.row .af 2 (fs.map aK),.fn 258 [.ptr .af [.str ⟨n.toArray⟩]]]=some (.int .i64 (j8 (jO fs n)),[.dead,.dead]):=by
 rw[aq (b:=Cu) (rs:=[.t 4]) (n:=2) rfl rfl];have h:=VU fs n hb;rw[show cU (λf=>decide (f.name=n)) 0 fs=jO fs n from rfl] at h;simp at h;cases g:jO fs n with
 |none=>rw[g] at h;simp at h;simp -implicitDefEqProofs [Cu,h,j8]
 |some x=>
 rw[g] at h;simp at h;simp -implicitDefEqProofs [Cu,h,j8];all_goals (repeat' split)<;>first|rfl|omega|(simp_all;done)|(simp_all;omega)|skip
def N7(fs:List aJ)(n:ag)(hb:fs.length<=9223372036854775807):ev LI TT 234 [.row .af 2 (fs.map aK),.str ⟨n.toArray⟩]=some (.int .i64 (j8 (jO fs n)),[.dead,.dead]):=by rw[aq (b:=EC) (rs:=[.t 4]) (n:=2) rfl rfl];have h:=YG fs n hb;simp -implicitDefEqProofs [EC,h,jH,gC];all_goals (repeat' split)<;>first|rfl|omega|(simp_all;done)|(simp_all;omega)|skip
def Ib(fs:List aJ)(n:ag)(hb:fs.length<=9223372036854775807):ev LI TT 218 [.row .af 2 (fs.map aK),.str ⟨n.toArray⟩]=some (.au [.str ⟨((ei fs n).getD []).toArray⟩,.bool (ei fs n).isSome],[.dead,.dead]):=by
 rw[aq (b:=zK) (rs:=[.t 4,.t 5]) (n:=2) rfl rfl];have h:=N7 fs n hb;unfold ei;cases g:jO fs n with
 |none=>rw[g] at h;simp[j8] at h;simp -implicitDefEqProofs [zK,h]
 |some x=>
 obtain⟨i,b⟩:=x;rw[g] at h;obtain⟨h1,h2,h3⟩:=qR g;simp at h2;simp[j8] at h;have hi:i<fs.length:=(aF.1 h2).1;obtain⟨_,rfl⟩:=aF.1 h2;simp -implicitDefEqProofs [zK,h,hi];all_goals (repeat' split)<;>first|rfl|omega|(simp_all;done)|(simp_all;omega)|skip
end M
namespace M
open Go
def A6:(⟨#[99,111,110,116,101,110,116,45,108,101,110,103,116,104]⟩:ByteArray)=⟨dG.toArray⟩:=rfl
def Vi(fs:List aJ)(hb:wL aN fs<=1073741824):aG (ai (ev LI TT) (aj TT) pZ) [(0,.row .af 2 (fs.map aK)),(3,.int .i64 0)]=if aM (ju fs) (fs.zipIdx)=true then some (.exit 0,[(0,.row .af 2 (fs.map aK)),(3,.int .i64 (fs.zipIdx).length),(7,.bool false)]) else some (.ret,[(2,.bool false)]):=by
 refine cZ (f:=ai (ev LI TT) (aj TT) pZ) (fs.zipIdx) (λi=>[(0,.row .af 2 (fs.map aK)),(3,.int .i64 i)]) (ju fs) _ _ (λi b hi hl=>?_) ?_
 ·have hw:=aQ i (by have:=bn (w:=aN) fs;simp at hl;omega);obtain⟨_,rfl⟩:=aF.1 hi;simp only[ym] at hl;have hz:fs.zipIdx[i]'(by simpa using hl)=(fs[i],i):=by simp
  have hm:=G9 (bx hl);have hfl:=bn (w:=aN) fs;rw[hz];have u1:=IA fs[i].name (by omega);try simp at u1
  have u2:=IC fs[i].value (by omega);try simp at u2
  have u3:=Ov fs fs[i].name (by omega);try simp at u3
  by_cases g1:eC fs[i].name=true;rotate_left;·simp -implicitDefEqProofs [pZ,uf,hl,hw,u1,u2,u3,ju,g1]
  by_cases g2:fR fs[i].value=true;rotate_left;·simp -implicitDefEqProofs [pZ,uf,hl,hw,u1,u2,u3,ju,g1,g2]
  by_cases g3:j8 (jO fs fs[i].name)=i;rotate_left;·simp -implicitDefEqProofs [pZ,uf,hl,hw,u1,u2,u3,ju,g1,g2,eq_false g3]
  by_cases hcl:fs[i].name=dG;·simp -implicitDefEqProofs [pZ,uf,hl,hw,u1,u2,u3,g1,g2,eq_true g3,ju,A6,eq_true hcl]
  simp -implicitDefEqProofs [pZ,uf,hl,hw,u1,u2,u3,ju,g1,g2,eq_true g3,A6,eq_false hcl];all_goals (repeat' split)<;>first|rfl|omega|(simp_all;done)|(simp_all;omega)|skip
 ·simp -implicitDefEqProofs [pZ,uf]
def Oh(fs:List aJ)(hb:wL aN fs<=1073741824):ev LI TT 106 [.row .af 2 (fs.map aK)]=some (.bool ((jt fs)),[.dead]):=by
 rw[aq (b:=Gb) (rs:=[.t 2]) (n:=1) rfl rfl];unfold jt;have hfl:=bn (w:=aN) fs;have u1:=Vi fs hb;try simp at u1
 simp -implicitDefEqProofs [Gb,u1];all_goals (repeat' split)<;>first|rfl|omega|(simp_all;done)|(simp_all;omega)|skip
def Ur(fs:List aJ)(hb:wL aN fs<=1073741824):aG (ai (ev LI TT) (aj TT) pG) [(0,.row .af 2 (fs.map aK)),(5,.row .af 2 (fs.map aK)),(6,.int .i64 fs.length),(7,.int .i64 0)]=if aM (ju fs) (fs.zipIdx)=true then some (.exit 0,[(0,.row .af 2 (fs.map aK)),(5,.row .af 2 (fs.map aK)),(6,.int .i64 fs.length),(7,.int .i64 (fs.zipIdx).length),(8,.bool false)]) else some (.ret,[(2,.bool false)]):=by
 refine cZ (f:=ai (ev LI TT) (aj TT) pG) (fs.zipIdx) (λi=>[(0,.row .af 2 (fs.map aK)),(5,.row .af 2 (fs.map aK)),(6,.int .i64 fs.length),(7,.int .i64 i)]) (ju fs) _ _ (λi b hi hl=>?_) ?_
 ·have hw:=aQ i (by have:=bn (w:=aN) fs;simp at hl;omega);obtain⟨_,rfl⟩:=aF.1 hi;simp only[ym] at hl;have hz:fs.zipIdx[i]'(by simpa using hl)=(fs[i],i):=by simp
  have hm:=G9 (bx hl);have hfl:=bn (w:=aN) fs;rw[hz];have u1:=Ic fs[i].name (by omega);try simp at u1
  have u2:=Ie fs[i].value (by omega);try simp at u2
  have u3:=N7 fs fs[i].name (by omega);try simp at u3
  by_cases g1:eC fs[i].name=true;rotate_left;·simp -implicitDefEqProofs [pG,tE,hl,hw,u1,u2,u3,ju,g1]
  by_cases g2:fR fs[i].value=true;rotate_left;·simp -implicitDefEqProofs [pG,tE,hl,hw,u1,u2,u3,ju,g1,g2]
  by_cases hcl:fs[i].name=dG;·simp -implicitDefEqProofs [pG,tE,hl,hw,u1,u2,u3,g1,g2,ju,A6,eq_true hcl]
  by_cases g3:j8 (jO fs fs[i].name)=i;rotate_left;·simp -implicitDefEqProofs [pG,tE,hl,hw,u1,u2,u3,g1,g2,ju,A6,eq_false hcl,eq_false g3]
  simp -implicitDefEqProofs [pG,tE,hl,hw,u1,u2,u3,ju,g1,g2,A6,eq_false hcl,eq_true g3];all_goals (repeat' split)<;>first|rfl|omega|(simp_all;done)|(simp_all;omega)|skip
 ·simp -implicitDefEqProofs [pG,tE]
def NU(fs:List aJ)(hb:wL aN fs<=1073741824):ev LI TT 189 [.row .af 2 (fs.map aK)]=some (.bool ((jt fs)),[.dead]):=by
 rw[aq (b:=Eg) (rs:=[.t 2]) (n:=1) rfl rfl];unfold jt;have hfl:=bn (w:=aN) fs;have u1:=Ur fs hb;try simp at u1
 simp -implicitDefEqProofs [Eg,u1];all_goals (repeat' split)<;>first|rfl|omega|(simp_all;done)|(simp_all;omega)|skip
def Om(r:cg)(hb:bC r<=1073741824):ev LI TT 107 [.agg (iI .af r)]=some (.bool ((fP r)),[.dead]):=by
 rw[aq (b:=uo) (rs:=[.t 2]) (n:=1) rfl rfl];have hw:bC r=wL aN r.fields+r.body.length:=rfl;unfold fP;have u1:=Oh r.fields (by omega);try simp at u1
 by_cases g1:100<=r.status;rotate_left;·simp -implicitDefEqProofs [uo,u1,eq_false g1]
 by_cases g2:r.status<=599;rotate_left;·simp -implicitDefEqProofs [uo,u1,eq_true g1,eq_false g2]
 by_cases g3:jt r.fields=true;rotate_left;·simp -implicitDefEqProofs [uo,u1,eq_true g1,eq_true g2,g3]
 simp -implicitDefEqProofs [uo,u1,eq_true g1,eq_true g2,g3];all_goals (repeat' split)<;>first|rfl|omega|(simp_all;done)|(simp_all;omega)|skip
def NZ(r:cg)(hb:bC r<=1073741824):ev LI TT 192 [.agg (iI .af r)]=some (.bool ((fP r)),[.dead]):=by
 rw[aq (b:=tG) (rs:=[.t 2]) (n:=1) rfl rfl];have hw:bC r=wL aN r.fields+r.body.length:=rfl;unfold fP;have u1:=NU r.fields (by omega);try simp at u1
 by_cases g1:100<=r.status;rotate_left;·simp -implicitDefEqProofs [tG,u1,eq_false g1]
 by_cases g2:r.status<=599;rotate_left;·simp -implicitDefEqProofs [tG,u1,eq_true g1,eq_false g2]
 by_cases g3:(r.body.length:Int)<=120;rotate_left;·simp -implicitDefEqProofs [tG,u1,eq_true g1,eq_true g2,eq_false g3]
 simp -implicitDefEqProofs [tG,u1,eq_true g1,eq_true g2,eq_true g3];all_goals (repeat' split)<;>first|rfl|omega|(simp_all;done)|(simp_all;omega)|skip
end M
namespace M
open Go
def Cm(s:ag):(iA s).length<=s.length+1:=by unfold iA;have h1:=List.length_filter_le (λw:ag=>decide (w≠[])) ((bu 44 s).map gi);have h2:=SQ 44 s;simp only[dx] at h1;omega
def Cn(s:ag):∀w∈iA s,w.length<=s.length:=by intro w hw;unfold iA at hw;obtain⟨x,hx,rfl⟩:=bp.1 (List.mem_filter.1 hw).1;have h1:=oF 44 s x hx;have h2:=Tc x;omega
def VB(ws:List ag)(hl0:ws.length<=1073741825)(hb:∀w∈ws,w.length<=1073741824):aG (ai (ev LI TT) (aj TT) BN) [(5,.row .own 1 ((jD ct ws 0).map eS)),(6,.int .i64 0)]=some (.exit 0,[(5,.row .own 1 ((jD ct ws (ws).length).map eS)),(6,.int .i64 (ws).length),(17,.bool false)]):=by
 refine nj (f:=ai (ev LI TT) (aj TT) BN) (ws) (λi=>[(5,.row .own 1 ((jD ct ws i).map eS)),(6,.int .i64 i)]) _ (λi b hi hl=>?_) ?_
 ·have hw:=aQ i (by first|omega|(simp at hl;omega));obtain⟨_,rfl⟩:=aF.1 hi;have h1:=afj ct ws i hl;have h2:=afk ct ws i hl;have u1:=Oi ws[i] (hb _ (bx hl));try simp at u1
  simp -implicitDefEqProofs [BN,LU,hl,hw,u1,h1,h2,rowAt,-List.map_set]
 ·simp -implicitDefEqProofs [BN,LU,rowAt]
def Oq(fs:List aJ)(hb:wL aN fs<=1073741824):ev LI TT 110 [.row .af 2 (fs.map aK)]=some (.row .own 1 ((gF fs).map eS),[.dead]):=by
 rw[aq (b:=Gq) (rs:=[.t 2]) (n:=1) rfl rfl];have hfl:=bn (w:=aN) fs;have hg:=vG fs jF;have u1:=Iw fs jF (by omega);try simp at u1
 have u2:=Oo ((ei fs jF).getD []) (by omega);try simp at u2
 have u3:=VB (iA ((ei fs jF).getD [])) (by have:=Cm ((ei fs jF).getD []);omega) (λw hw=>by have:=Cn _ w hw;omega);try simp at u3
 rw[afl,afh,show (iA ((ei fs jF).getD [])).map ct=gF fs from rfl] at u3;simp -implicitDefEqProofs [Gq,u1,u2,u3];all_goals (repeat' split)<;>first|rfl|omega|(simp_all;done)|(simp_all;omega)|skip
def UB(ws:List ag)(hl0:ws.length<=1073741825)(hb:∀w∈ws,w.length<=1073741824):aG (ai (ev LI TT) (aj TT) zZ) [(5,.row .own 1 (([]).map eS)),(14,.row .own 1 (ws.map eS)),(15,.int .i64 ws.length),(16,.int .i64 0)]=some (.exit 0,[(5,.row .own 1 ((((ws).flatMap (λw=>[ct w]))).map eS)),(14,.row .own 1 (ws.map eS)),(15,.int .i64 ws.length),(16,.int .i64 (ws).length),(17,.bool false)]):=by
 refine FC (f:=ai (ev LI TT) (aj TT) zZ) (ws) (λw=>[ct w]) (λi out=>[(5,.row .own 1 ((out).map eS)),(14,.row .own 1 (ws.map eS)),(15,.int .i64 ws.length),(16,.int .i64 i)]) (λout=>[(5,.row .own 1 ((out).map eS)),(14,.row .own 1 (ws.map eS)),(15,.int .i64 ws.length),(16,.int .i64 (ws).length),(17,.bool false)]) (λi b out hi hl hout=>?_) (λout hout=>?_)
 ·have hw:=aQ i (by first|omega|(simp at hl;omega));obtain⟨_,rfl⟩:=aF.1 hi;have hlo:out.length=i:=by rw[hout];exact PA _ _ _ (by omega)
  have hlz:(i+1)*16<=140737488355328:=by omega
  have u1:=NV ws[i] (hb _ (bx hl));try simp at u1
  simp -implicitDefEqProofs [zZ,Kb,hl,hw,u1,hlo,hlz,dB]
 ·simp -implicitDefEqProofs [zZ,Kb]
def N5(fs:List aJ)(hb:wL aN fs<=1073741824):ev LI TT 193 [.row .af 2 (fs.map aK)]=some (.row .own 1 ((gF fs).map eS),[.dead]):=by
 rw[aq (b:=Ew) (rs:=[.t 2]) (n:=1) rfl rfl];have hfl:=bn (w:=aN) fs;have hg:=vG fs jF;have u1:=Ib fs jF (by omega);try simp at u1
 have u2:=N3 ((ei fs jF).getD []) (by omega);try simp at u2
 have u3:=UB (iA ((ei fs jF).getD [])) (by have:=Cm ((ei fs jF).getD []);omega) (λw hw=>by have:=Cn _ w hw;omega);try simp at u3
 rw[Ji,show (iA ((ei fs jF).getD [])).map ct=gF fs from rfl] at u3;simp -implicitDefEqProofs [Ew,u1,u2,u3];all_goals (repeat' split)<;>first|rfl|omega|(simp_all;done)|(simp_all;omega)|skip
def Mv(fs:List aJ):(gF fs).length<=wL aN fs+1:=by have h1:=Cm ((ei fs jF).getD []);have h2:=vG fs jF;simp[gF];omega
end M
namespace M
open Go
def VT(ps:List (ag×ag))(hb:ps.length<=9223372036854775807):aG (ai (ev LI TT) (aj TT) Cr) [(0,.row .af 1 (ps.map λx=>eS x.1)),(1,.row .af 1 (ps.map λx=>eS x.2)),(12,.int .i64 ps.length),(13,.int .i64 0)]=if aM cy (ps)=true then some (.exit 0,[(0,.row .af 1 (ps.map λx=>eS x.1)),(1,.row .af 1 (ps.map λx=>eS x.2)),(12,.int .i64 ps.length),(13,.int .i64 ps.length),(14,.bool false)]) else some (.ret,[(4,.bool false)]):=by
 refine cZ (f:=ai (ev LI TT) (aj TT) Cr) (ps) (λi=>[(0,.row .af 1 (ps.map λx=>eS x.1)),(1,.row .af 1 (ps.map λx=>eS x.2)),(12,.int .i64 ps.length),(13,.int .i64 i)]) cy _ _ (λi b hi hl=>?_) ?_;·have hw:=aQ i (by first|omega|(simp at hl;omega));obtain⟨_,rfl⟩:=aF.1 hi;simp -implicitDefEqProofs [Cr,MA,hl,hw,cy];first|done|(split<;>simp_all)
 ·simp -implicitDefEqProofs [Cr,MA]
def II(a b:List ag)(hb:a.length<=9223372036854775807):ev LI TT 148 [.row .af 1 (a.map eS),.row .af 1 (b.map eS)]=some (.bool (decide (a=b)),[.dead,.dead]):=by
 rw[aq (b:=Hi) (rs:=[.t 4]) (n:=2) rfl rfl];simp -implicitDefEqProofs [Hi];by_cases h:a.length=b.length;·obtain⟨ps,rfl,rfl⟩:=lK h;have h1:=VT ps (by simpa using hb);have h2:=kO ps;simp at h1;cases h3:aM cy ps<;>rw[h3] at h1 h2<;>simp[h1,kJ,<-h2]
 ·have:¬a=b:=λe=>h (by rw[e]);simp[this];omega
def Uh:∀{a b:List ag},(∀x∈a.zip b,¬(decide (x.1≠x.2))=true)->a.length=b.length->a=b
 |[],[],_,_=>rfl
 |x::a,y::b,h,hl=>by have h1:=h (x,y) (by simp);simp at h1;have h2:a=b:=Uh (λz hz=>h z (by simp only[Hv];exact b8 _ hz)) (by simpa using hl);rw[h1,h2]
def alU{a b:List ag}{x:ag×ag}(hx:x∈a.zip b)(h:x.1≠x.2):a≠b:=by
 rintro rfl
 have:∀{l:List ag} {x:ag×ag},x∈l.zip l->x.1=x.2:=by
  intro l;induction l with
  |nil=>intro x h;simp at h
  |cons y l ih=>
   intro x h;simp only[Hv,bZ] at h;rcases h with rfl|h;·rfl
   ·exact ih h
 exact h (this hx)
def VP(a b:List ag)(hb:a.length<=9223372036854775807)(gM:b.length<=9223372036854775807):aG (ai (ev LI TT) (aj TT) xI) [(0,.row .af 1 (a.map eS)),(1,.row .af 1 (b.map eS)),(5,.int .i64 0)]=(cU (λx=>decide (x.1≠x.2)) 0 (a.zip b)).elim (some (.exit 0,[(0,.row .af 1 (a.map eS)),(1,.row .af 1 (b.map eS)),(5,.int .i64 (a.zip b).length),(15,.bool false)])) λx=>some (.ret,(λ(i:Nat) b=>[(4,.bool false)]) x.1 x.2):=by
 refine rI (f:=ai (ev LI TT) (aj TT) xI) (a.zip b) (λi=>[(0,.row .af 1 (a.map eS)),(1,.row .af 1 (b.map eS)),(5,.int .i64 i)]) (λx=>decide (x.1≠x.2)) (λ(i:Nat) b=>[(4,.bool false)]) _ (λi b hi hl=>?_) ?_
 ·have hw:=aQ i (by first|omega|(simp at hl;omega));obtain⟨_,rfl⟩:=aF.1 hi;have ha:i<a.length:=by simp at hl;omega
  have hb':i<b.length:=by simp at hl;omega
  simp -implicitDefEqProofs [xI,GH,hl,hw,ha,hb']
 ·have hz:(a.zip b).length=min a.length b.length:=by simp
  rw[hz];by_cases hh:a.length<=b.length;·rw[lF hh];simp -implicitDefEqProofs [xI,GH]
  have h1:b.length<=a.length:=by omega
  have h2:(b.length:Int)<a.length:=by omega
  have h3:b.length<a.length:=by omega
  rw[MY h1];simp -implicitDefEqProofs [xI,GH,h2,h3]
def IF(a b:List ag)(hb:a.length<=9223372036854775807)(gM:b.length<=9223372036854775807):ev LI TT 109 [.row .af 1 (a.map eS),.row .af 1 (b.map eS)]=some (.bool (decide (a=b)),[.dead,.dead]):=by
 rw[aq (b:=xJ) (rs:=[.t 4]) (n:=2) rfl rfl];have h:=VP a b hb gM;cases g:cU (λx:ag×ag=>decide (x.1≠x.2)) 0 (a.zip b) with
 |some x=>obtain⟨i,x⟩:=x;obtain⟨_,h1,h2⟩:=qR g;have h3:¬a=b:=alU (lE h1) (by simpa using h2);rw[g] at h;simp only[Option.elim] at h;simp -implicitDefEqProofs [xJ,h,h3]
 |none=>
 have h1:=Dw.1 g;rw[g] at h;simp only[Option.elim] at h;try simp at h
 by_cases hl:a.length=b.length
 ·have h2:=Uh h1 hl;subst h2;try simp at h
  simp -implicitDefEqProofs [xJ,h]
 have h3:¬a=b:=λe=>hl (by rw[e]);have h4:¬(a.length:Int)=b.length:=by omega
 simp -implicitDefEqProofs [xJ,h,h3,h4];all_goals (repeat' split)<;>first|rfl|omega|(simp_all;done)|(simp_all;omega)|skip
end M
namespace M
open Go
def Vq(o:Ob)(hb:wL wS o.values<=1073741824):aG (ai (ev LI TT) (aj TT) BC) [(1,.ptr .own (bA .af o)),(3,.int .i64 0)]=if aM fR (o.values)=true then some (.exit 0,[(1,.ptr .own (bA .af o)),(3,.int .i64 (o.values).length),(49,.bool false)]) else some (.ret,[(2,.bool false)]):=by
 refine cZ (f:=ai (ev LI TT) (aj TT) BC) (o.values) (λi=>[(1,.ptr .own (bA .af o)),(3,.int .i64 i)]) fR _ _ (λi b hi hl=>?_) ?_
 ·have hw:=aQ i (by have:=bn (w:=wS) o.values;omega);obtain⟨_,rfl⟩:=aF.1 hi;have hm:=xV (bx hl);have u1:=IC o.values[i] (by omega);try simp at u1
  simp -implicitDefEqProofs [BC,LK,hl,hw,u1];all_goals (repeat' split)<;>first|rfl|omega|(simp_all;done)|(simp_all;omega)|skip
 ·simp -implicitDefEqProofs [BC,LK]
def C5(o:Ob)(hb:aZ o<=1073741824):ev LI TT 49 [.agg (bA .af o)]=some (.bool ((cO o)),[.dead]):=by
 rw[aq (b:=mz) (rs:=[.t 2]) (n:=1) rfl rfl];have hw:aZ o=o.path.length+wL wS o.names+wL wS o.values+bC o.resp:=rfl;have fF:bC o.resp=wL aN o.resp.fields+o.resp.body.length:=rfl;have hn:=bn (w:=wS) o.names;have hv:=bn (w:=wS) o.values;have hvl:=Mv o.resp.fields;unfold cO w6;have u1:=Om o.resp (by omega);try simp at u1
 have u2:=IE o.path (by omega);try simp at u2
 have u3:=YC o.names (by omega) (λw hw=>by have:=xV hw;omega);try simp at u3
 have u4:=Oq o.resp.fields (by omega);try simp at u4
 have u5:=IF o.names (gF o.resp.fields) (by omega) (by omega);try simp at u5
 have u6:=Vq o (by omega);try simp at u6
 by_cases g1:fP o.resp=true;rotate_left;·simp -implicitDefEqProofs [mz,u1,u2,u3,u4,u5,u6,g1]
 by_cases g2:gV o.path=true;rotate_left;·simp -implicitDefEqProofs [mz,u1,u2,u3,u4,u5,u6,g1,g2]
 by_cases g3:0<=o.t;rotate_left;·simp -implicitDefEqProofs [mz,u1,u2,u3,u4,u5,u6,g1,g2,eq_false g3]
 by_cases g4:o.t<=1000000;rotate_left;·simp -implicitDefEqProofs [mz,u1,u2,u3,u4,u5,u6,g1,g2,eq_true g3,eq_false g4]
 by_cases g5:aM eC o.names=true;rotate_left;·simp -implicitDefEqProofs [mz,u1,u2,u3,u4,u5,u6,g1,g2,eq_true g3,eq_true g4,g5]
 by_cases g6:(o.names.length:Int)<=4;rotate_left;·simp -implicitDefEqProofs [mz,u1,u2,u3,u4,u5,u6,g1,g2,eq_true g3,eq_true g4,g5,eq_false g6]
 by_cases g7:o.names=gF o.resp.fields;rotate_left;·simp -implicitDefEqProofs [mz,u1,u2,u3,u4,u5,u6,g1,g2,eq_true g3,eq_true g4,g5,eq_true g6,eq_false g7]
 by_cases g8:o.values.length=o.names.length;rotate_left
 ·have jT:¬(o.values.length:Int)=o.names.length:=by omega
  simp -implicitDefEqProofs [mz,u1,u2,u3,u4,u5,u6,g1,g2,eq_true g3,eq_true g4,g5,eq_true g6,eq_true g7,eq_false g8,eq_false jT]
 have jT:(o.values.length:Int)=o.names.length:=by omega
 simp -implicitDefEqProofs [mz,u1,u2,u3,u4,u5,u6,g1,g2,eq_true g3,eq_true g4,g5,eq_true g6,eq_true g7,eq_true g8,eq_true jT];all_goals (repeat' split)<;>first|rfl|omega|(simp_all;done)|(simp_all;omega)|skip
def Uu(o:Ob)(hb:wL wS o.values<=1073741824):aG (ai (ev LI TT) (aj TT) zO) [(1,.ptr .own (bA .af o)),(5,.aC 1 [] 0 2),(6,.row .af 1 (o.values.map eS)),(7,.int .i64 o.values.length),(8,.int .i64 0)]=if aM fR (o.values)=true then some (.exit 0,[(1,.ptr .own (bA .af o)),(5,.aC 1 [] 0 2),(6,.row .af 1 (o.values.map eS)),(7,.int .i64 o.values.length),(8,.int .i64 (o.values).length),(9,.bool false)]) else some (.ret,[(2,.bool false)]):=by
 refine cZ (f:=ai (ev LI TT) (aj TT) zO) (o.values) (λi=>[(1,.ptr .own (bA .af o)),(5,.aC 1 [] 0 2),(6,.row .af 1 (o.values.map eS)),(7,.int .i64 o.values.length),(8,.int .i64 i)]) fR _ _ (λi b hi hl=>?_) ?_
 ·have hw:=aQ i (by have:=bn (w:=wS) o.values;omega);obtain⟨_,rfl⟩:=aF.1 hi;have hm:=xV (bx hl);have u1:=Ie o.values[i] (by omega);try simp at u1
  simp -implicitDefEqProofs [zO,J4,hl,hw,u1];all_goals (repeat' split)<;>first|rfl|omega|(simp_all;done)|(simp_all;omega)|skip
 ·simp -implicitDefEqProofs [zO,J4]
def C3(o:Ob)(hb:aZ o<=1073741824):ev LI TT 134 [.agg (bA .af o)]=some (.bool ((cO o)),[.dead]):=by
 rw[aq (b:=l6) (rs:=[.t 2]) (n:=1) rfl rfl];have hw:aZ o=o.path.length+wL wS o.names+wL wS o.values+bC o.resp:=rfl;have fF:bC o.resp=wL aN o.resp.fields+o.resp.body.length:=rfl;have hn:=bn (w:=wS) o.names;have hv:=bn (w:=wS) o.values;have hvl:=Mv o.resp.fields;unfold cO w6;have u1:=NZ o.resp (by omega);try simp at u1
 have u2:=Ig o.path (by omega);try simp at u2
 have u3:=Xf o.names (by omega) (λw hw=>by have:=xV hw;omega);try simp at u3
 have u4:=N5 o.resp.fields (by omega);try simp at u4
 have u5:=II o.names (gF o.resp.fields) (by omega);try simp at u5
 have u6:=Uu o (by omega);try simp at u6
 by_cases g1:aM fR o.values=true;rotate_left;·simp -implicitDefEqProofs [l6,u1,u2,u3,u4,u5,u6,g1]
 by_cases g2:gV o.path=true;rotate_left;·simp -implicitDefEqProofs [l6,u1,u2,u3,u4,u5,u6,g1,g2]
 by_cases g3:0<=o.t;rotate_left;·simp -implicitDefEqProofs [l6,u1,u2,u3,u4,u5,u6,g1,g2,eq_false g3]
 by_cases g4:o.t<=1000000;rotate_left;·simp -implicitDefEqProofs [l6,u1,u2,u3,u4,u5,u6,g1,g2,eq_true g3,eq_false g4]
 by_cases g8:o.values.length=o.names.length;rotate_left
 ·have jT:¬(o.values.length:Int)=o.names.length:=by omega
  simp -implicitDefEqProofs [l6,u1,u2,u3,u4,u5,u6,g1,g2,eq_true g3,eq_true g4,eq_false g8,eq_false jT]
 have jT:(o.values.length:Int)=o.names.length:=by omega
 by_cases h5:aM eC o.names=true;rotate_left;·simp -implicitDefEqProofs [l6,u1,u2,u3,u4,u5,u6,g1,g2,eq_true g3,eq_true g4,eq_true g8,eq_true jT,h5]
 by_cases h6:(o.names.length:Int)<=4;rotate_left;·simp -implicitDefEqProofs [l6,u1,u2,u3,u4,u5,u6,g1,g2,eq_true g3,eq_true g4,eq_true g8,eq_true jT,h5,eq_false h6]
 by_cases h7:fP o.resp=true;rotate_left;·simp -implicitDefEqProofs [l6,u1,u2,u3,u4,u5,u6,g1,g2,eq_true g3,eq_true g4,eq_true g8,eq_true jT,h5,eq_true h6,h7]
 simp -implicitDefEqProofs [l6,u1,u2,u3,u4,u5,u6,g1,g2,eq_true g3,eq_true g4,eq_true g8,eq_true jT,h5,eq_true h6,h7];all_goals (repeat' split)<;>first|rfl|omega|(simp_all;done)|(simp_all;omega)|skip
def Iv(b:Bn)(hb:aV b<=1073741824):ev LI TT 104 [.agg (aW b)]=some (.bool ((dV b)),[.dead]):=by
 rw[aq (b:=pX) (rs:=[.t 2]) (n:=1) rfl rfl];have hw:aV b=b.a.length+b.b.length:=rfl;unfold dV;have u1:=IE b.a (by omega);try simp at u1
 have u2:=IA b.a (by omega);try simp at u2
 have u3:=IC b.b (by omega);try simp at u3
 by_cases g1:0<=b.t;rotate_left;·simp -implicitDefEqProofs [pX,u1,u2,u3,eq_false g1]
 by_cases g2:b.t<=1000000;rotate_left;·simp -implicitDefEqProofs [pX,u1,u2,u3,eq_true g1,eq_false g2]
 by_cases h1:b.kind=1;·by_cases h2:gV b.a=true<;>simp -implicitDefEqProofs [pX,u1,u2,u3,eq_true g1,eq_true g2,h1,h2]
 by_cases h2:b.kind=2;·by_cases h3:gV b.a=true<;>simp -implicitDefEqProofs [pX,u1,u2,u3,eq_true g1,eq_true g2,h2,h3]
 by_cases h3:b.kind=3;·by_cases h4:eC b.a=true<;>simp -implicitDefEqProofs [pX,u1,u2,u3,eq_true g1,eq_true g2,h3,h4]
 simp -implicitDefEqProofs [pX,u1,u2,u3,eq_true g1,eq_true g2,h1,h2,h3];all_goals (repeat' split)<;>first|rfl|omega|(simp_all;done)|(simp_all;omega)|skip
def H9(b:Bn)(hb:aV b<=1073741824):ev LI TT 136 [.agg (aW b)]=some (.bool ((dV b)),[.dead]):=by
 rw[aq (b:=pz) (rs:=[.t 2]) (n:=1) rfl rfl];have hw:aV b=b.a.length+b.b.length:=rfl;unfold dV;have u1:=Ig b.a (by omega);try simp at u1
 have u2:=Ic b.a (by omega);try simp at u2
 have u3:=Ie b.b (by omega);try simp at u3
 by_cases g1:0<=b.t;rotate_left;·simp -implicitDefEqProofs [pz,u1,u2,u3,eq_false g1]
 by_cases g2:b.t<=1000000;rotate_left;·simp -implicitDefEqProofs [pz,u1,u2,u3,eq_true g1,eq_false g2]
 by_cases h1:b.kind=1;·by_cases h2:gV b.a=true<;>simp -implicitDefEqProofs [pz,u1,u2,u3,eq_true g1,eq_true g2,h1,h2]
 by_cases h2:b.kind=2;·by_cases h3:gV b.a=true<;>simp -implicitDefEqProofs [pz,u1,u2,u3,eq_true g1,eq_true g2,h2,h3]
 by_cases h3:b.kind=3;·by_cases h4:eC b.a=true<;>simp -implicitDefEqProofs [pz,u1,u2,u3,eq_true g1,eq_true g2,h3,h4]
 simp -implicitDefEqProofs [pz,u1,u2,u3,eq_true g1,eq_true g2,h1,h2,h3];all_goals (repeat' split)<;>first|rfl|omega|(simp_all;done)|(simp_all;omega)|skip
@[simp] def aml(t:Int):ev LI TT 149 [.int .i64 t]=some (.bool ((decide (0<=t/\t<=19))),[.dead]):=by rw[aq (b:=EG) (rs:=[.t 2]) (n:=1) rfl rfl];simp -implicitDefEqProofs [EG];all_goals (repeat' split)<;>first|rfl|omega|(simp_all;done)|(simp_all;omega)|skip
@[simp] def amm(t:Int):ev LI TT 137 [.int .i64 t]=some (.bool ((decide (5<=t/\t<=19))),[.dead]):=by rw[aq (b:=EH) (rs:=[.t 2]) (n:=1) rfl rfl];simp -implicitDefEqProofs [EH];all_goals (repeat' split)<;>first|rfl|omega|(simp_all;done)|(simp_all;omega)|skip
def Vh(d:bg)(hb:d.pending.length<=9223372036854775807):aG (ai (ev LI TT) (aj TT) Bt) [(1,.ptr .own (bT .af d)),(3,.int .i64 0)]=if aM rR (d.pending)=true then some (.exit 0,[(1,.ptr .own (bT .af d)),(3,.int .i64 (d.pending).length),(8,.bool false)]) else some (.ret,[(2,.bool false)]):=by
 refine cZ (f:=ai (ev LI TT) (aj TT) Bt) (d.pending) (λi=>[(1,.ptr .own (bT .af d)),(3,.int .i64 i)]) rR _ _ (λi b hi hl=>?_) ?_;·have hw:=aQ i (by first|omega|(simp at hl;omega));obtain⟨_,rfl⟩:=aF.1 hi;simp -implicitDefEqProofs [Bt,LD,hl,hw,rR];all_goals (repeat' split)<;>first|rfl|omega|(simp_all;done)|(simp_all;omega)|skip
 ·simp -implicitDefEqProofs [Bt,LD]
def yF(d:bg)(hb:d.pending.length<=9223372036854775807):ev LI TT 51 [.agg (bT .af d)]=some (.bool ((dc d)),[.dead]):=by
 rw[aq (b:=Ga) (rs:=[.t 2]) (n:=1) rfl rfl];unfold dc;have u1:=Vh d hb;try simp at u1
 simp -implicitDefEqProofs [Ga,u1];all_goals (repeat' split)<;>first|rfl|omega|(simp_all;done)|(simp_all;omega)|skip
def Uo(d:bg)(hb:d.pending.length<=9223372036854775807):aG (ai (ev LI TT) (aj TT) zH) [(1,.ptr .own (bT .af d)),(5,.aC 1 [] 0 1),(6,.row .af 2 (d.pending.map eW)),(7,.int .i64 d.pending.length),(8,.int .i64 0)]=if aM rR (d.pending)=true then some (.exit 0,[(1,.ptr .own (bT .af d)),(5,.aC 1 [] 0 1),(6,.row .af 2 (d.pending.map eW)),(7,.int .i64 d.pending.length),(8,.int .i64 (d.pending).length),(9,.bool false)]) else some (.ret,[(2,.bool false)]):=by
 refine cZ (f:=ai (ev LI TT) (aj TT) zH) (d.pending) (λi=>[(1,.ptr .own (bT .af d)),(5,.aC 1 [] 0 1),(6,.row .af 2 (d.pending.map eW)),(7,.int .i64 d.pending.length),(8,.int .i64 i)]) rR _ _ (λi b hi hl=>?_) ?_;·have hw:=aQ i (by first|omega|(simp at hl;omega));obtain⟨_,rfl⟩:=aF.1 hi;simp -implicitDefEqProofs [zH,J0,hl,hw,rR];all_goals (repeat' split)<;>first|rfl|omega|(simp_all;done)|(simp_all;omega)|skip
 ·simp -implicitDefEqProofs [zH,J0]
def Ia(d:bg)(hb:d.pending.length<=9223372036854775807):ev LI TT 80 [.agg (bT .af d)]=some (.bool ((dc d)),[.dead]):=by
 rw[aq (b:=Ed) (rs:=[.t 2]) (n:=1) rfl rfl];unfold dc;have u1:=Uo d hb;try simp at u1
 simp -implicitDefEqProofs [Ed,u1];all_goals (repeat' split)<;>first|rfl|omega|(simp_all;done)|(simp_all;omega)|skip
end M
namespace M
open Go
def Vs(s:Sh)(hb:cm s<=1073741824):aG (ai (ev LI TT) (aj TT) BG) [(1,.ptr .own (aL .af s)),(3,.int .i64 0)]=if aM dV (s.aU)=true then some (.exit 0,[(1,.ptr .own (aL .af s)),(3,.int .i64 (s.aU).length),(33,.bool false)]) else some (.ret,[(2,.bool false)]):=by
 refine cZ (f:=ai (ev LI TT) (aj TT) BG) (s.aU) (λi=>[(1,.ptr .own (aL .af s)),(3,.int .i64 i)]) dV _ _ (λi b hi hl=>?_) ?_
 ·have hw:=aQ i (by have eH:cm s=cv s.aP+wL bP s.av+wL aV s.aU:=rfl;have:=bn (w:=aV) s.aU;omega);obtain⟨_,rfl⟩:=aF.1 hi;have eH:cm s=cv s.aP+wL bP s.av+wL aV s.aU:=rfl;have hm:=G7 (bx hl);have u1:=Iv s.aU[i] (by omega);try simp at u1
  simp -implicitDefEqProofs [BG,LM,hl,hw,u1];all_goals (repeat' split)<;>first|rfl|omega|(simp_all;done)|(simp_all;omega)|skip
 ·simp -implicitDefEqProofs [BG,LM]
def Vt(s:Sh)(n:Nat)(k:Kp)(hn:n<=s.av.length)(hb:s.av.length<=1073741824):aG (ai (ev LI TT) (aj TT) BH) [(1,.ptr .own (aL .af s)),(4,.int .i64 n),(5,.ptr .own (aE .af k)),(6,.int .i64 0)]=if aM (λy=>decide ¬y.at_=k.at_) (s.av.take n)=true then some (.exit 4,[(1,.ptr .own (aL .af s)),(4,.int .i64 n),(5,.ptr .own (aE .af k)),(6,.int .i64 (s.av.take n).length),(92,.bool false)]) else some (.ret,[(2,.bool false)]):=by
 refine cZ (f:=ai (ev LI TT) (aj TT) BH) (s.av.take n) (λi=>[(1,.ptr .own (aL .af s)),(4,.int .i64 n),(5,.ptr .own (aE .af k)),(6,.int .i64 i)]) (λy=>decide ¬y.at_=k.at_) _ _ (λi b hi hl=>?_) ?_
 ·have hw:=aQ i (by first|omega|(simp at hl;omega));obtain⟨_,rfl⟩:=aF.1 hi;have h1:i<n:=by simp at hl;omega
  have h2:i<s.av.length:=by omega
  simp -implicitDefEqProofs [BH,LN,hl,hw,h1,h2];all_goals (repeat' split)<;>first|rfl|omega|(simp_all;done)|(simp_all;omega)|skip
 ·have hmin:min n s.av.length=n:=by omega
  simp -implicitDefEqProofs [BH,LN,hmin]
def Vu(s:Sh)(hb:cm s<=1073741824)(hs:1<=s.seq/\s.seq<=100000):aG (ai (ev LI TT) (aj TT) mB) [(1,.ptr .own (aL .af s)),(4,.int .i64 0)]=if aM (k7 s.seq s.av) (s.av.zipIdx)=true then some (.exit 2,[(1,.ptr .own (aL .af s)),(4,.int .i64 (s.av.zipIdx).length),(47,.bool false)]) else some (.ret,[(2,.bool false)]):=by
 refine cZ (f:=ai (ev LI TT) (aj TT) mB) (s.av.zipIdx) (λi=>[(1,.ptr .own (aL .af s)),(4,.int .i64 i)]) (k7 s.seq s.av) _ _ (λi b hi hl=>?_) ?_
 ·have hw:=aQ i (by have eH:cm s=cv s.aP+wL bP s.av+wL aV s.aU:=rfl;have:=bn (w:=bP) s.av;simp at hl;omega);obtain⟨_,rfl⟩:=aF.1 hi;simp only[ym] at hl;have eH:cm s=cv s.aP+wL bP s.av+wL aV s.aU:=rfl;have hlen:=bn (w:=bP) s.av;have hz:s.av.zipIdx[i]'(by simpa using hl)=(s.av[i],i):=by simp
  have hm:=xU (bx hl);have hS:IntKind.i64.wrap (s.seq - 1)=s.seq - 1:=bK (by omega) (by omega);rw[hz];have hmin:min i s.av.length=i:=by omega
  have u1:=C5 s.av[i].obj (by omega);try simp at u1
  have u2:=Vt s i s.av[i] (by omega) (by omega);try simp at u2
  by_cases g1:cO (s.av[i]).obj=true;rotate_left;·simp -implicitDefEqProofs [mB,oC,hl,hw,u1,u2,k7,hS,hmin,g1]
  by_cases g2:5<=(s.av[i]).at_;rotate_left;·simp -implicitDefEqProofs [mB,oC,hl,hw,u1,u2,k7,hS,hmin,g1,eq_false g2]
  by_cases g3:(s.av[i]).at_<=19;rotate_left;·simp -implicitDefEqProofs [mB,oC,hl,hw,u1,u2,k7,hS,hmin,g1,eq_true g2,eq_false g3]
  by_cases g4:1<=(s.av[i]).seq;rotate_left;·simp -implicitDefEqProofs [mB,oC,hl,hw,u1,u2,k7,hS,hmin,g1,eq_true g2,eq_true g3,eq_false g4]
  by_cases g5:(s.av[i]).seq<=s.seq - 1;rotate_left;·simp -implicitDefEqProofs [mB,oC,hl,hw,u1,u2,k7,hS,hmin,g1,eq_true g2,eq_true g3,eq_true g4,eq_false g5]
  by_cases g6:i=0
  ·subst g6;try simp at u2 hw
   simp -implicitDefEqProofs [mB,oC,hl,hw,u1,u2,k7,hS,hmin,g1,eq_true g2,eq_true g3,eq_true g4,eq_true g5]
  obtain⟨j,rfl⟩:∃j,i=j+1:=⟨i - 1,by omega⟩;have hj:j<s.av.length:=by omega
  have hJ:IntKind.i64.wrap (j:Int)=j:=bK (by omega) (by omega);have hp:=Lf s.av j hj;try simp at u2 hw hS
  have hpos:(0:Int)<(j:Int)+1:=by omega
  have hlc:(j:Int)+1<s.av.length:=by omega
  have jh:(0:Int)<=(j:Int)+1:=by omega
  by_cases g7:(s.av[j]).seq<(s.av[j+1]).seq;rotate_left
  ·have Jr:(s.av[j+1]).seq<=(s.av[j]).seq:=by omega
   simp -implicitDefEqProofs [mB,oC,hl,hw,u1,u2,k7,hS,hmin,g1,eq_true g2,eq_true g3,eq_true g4,eq_true g5,hj,hJ,hp,hpos,hlc,jh,eq_false g7,eq_true Jr]
  have Jr:¬(s.av[j+1]).seq<=(s.av[j]).seq:=by omega
  simp -implicitDefEqProofs [mB,oC,hl,hw,u1,u2,k7,hS,hmin,g1,eq_true g2,eq_true g3,eq_true g4,eq_true g5,hj,hJ,hp,hpos,hlc,jh,eq_true g7,eq_false Jr];all_goals (repeat' split)<;>first|rfl|omega|(simp_all;done)|(simp_all;omega)|skip
 ·simp -implicitDefEqProofs [mB,oC]
def Yq(s:Sh)(hb:cm s<=1073741824):ev LI TT 46 [.agg (aL .af s)]=some (.bool ((lz s)),[.dead]):=by
 rw[aq (b:=oD) (rs:=[.t 2]) (n:=1) rfl rfl];have eH:cm s=cv s.aP+wL bP s.av+wL aV s.aU:=rfl;have QG:cv s.aP=wL wS s.aP.cells+wL cl s.aP.pending:=rfl;have hlen:=bn (w:=cl) s.aP.pending;unfold lz;have u1:=yF s.aP (by omega);try simp at u1
 have u2:=Vs s hb;try simp at u2
 by_cases g1:dc s.aP=true;rotate_left;·simp -implicitDefEqProofs [oD,u1,u2,g1]
 by_cases g2:(s.aU.length:Int)<=5;rotate_left;·simp -implicitDefEqProofs [oD,u1,u2,g1,eq_false g2]
 by_cases g3:5<=s.next
 rotate_left;·simp -implicitDefEqProofs [oD,u1,u2,g1,eq_true g2,eq_false g3]
 by_cases g4:s.next<=19
 rotate_left;·simp -implicitDefEqProofs [oD,u1,u2,g1,eq_true g2,eq_true g3,eq_false g4]
 by_cases g5:1<=s.seq;rotate_left;·simp -implicitDefEqProofs [oD,u1,u2,g1,eq_true g2,eq_true g3,eq_true g4,eq_false g5]
 by_cases g6:s.seq<=100000;rotate_left;·simp -implicitDefEqProofs [oD,u1,u2,g1,eq_true g2,eq_true g3,eq_true g4,eq_true g5,eq_false g6]
 have u3:=Vu s hb ⟨by omega,by omega⟩;rw[ae0] at u3;simp at u3;have nV:¬5<(s.aU.length:Int):=by omega
 simp -implicitDefEqProofs [oD,u1,u2,g1,eq_true g2,eq_true g3,eq_true g4,eq_true g5,eq_true g6,u3,nV];all_goals (repeat' split)<;>first|rfl|omega|(simp_all;done)|(simp_all;omega)|skip
end M
namespace M
open Go
def W7(x k:Kp):ev LI TT 197 [.agg (aE .af x),.ptr .af (aE .af k)]=some (.bool (decide (x.at_=k.at_)),[.dead,.dead]):=by rw[aq (b:=Eo) (rs:=[.t 3]) (n:=2) rfl rfl];simp -implicitDefEqProofs [Eo];all_goals (repeat' split)<;>first|rfl|omega|(simp_all;done)|(simp_all;omega)|skip
def VV(l:List Kp)(k:Kp)(gf:Nat)(p:Kp->Bool)(ho:aj TT gf=true)(hf:∀x∈l,ev LI TT gf [.agg (aE .af x),.ptr .af (aE .af k)]=some (.bool (p x),[.dead,.dead]))(hb:l.length<=9223372036854775807):aG (ai (ev LI TT) (aj TT) Cv) [(0,.row .af 9 (l.map (aE .af))),(1,.fn gf [.ptr .af (aE .af k)]),(7,.int .i64 l.length),(8,.int .i64 0)]=(cU p 0 (l)).elim (some (.exit 0,[(0,.row .af 9 (l.map (aE .af))),(1,.fn gf [.ptr .af (aE .af k)]),(7,.int .i64 l.length),(8,.int .i64 (l).length),(9,.bool false)])) λx=>some (.ret,(λ(i:Nat) b=>[(4,.int .i64 i)]) x.1 x.2):=by
 refine rI (f:=ai (ev LI TT) (aj TT) Cv) (l) (λi=>[(0,.row .af 9 (l.map (aE .af))),(1,.fn gf [.ptr .af (aE .af k)]),(7,.int .i64 l.length),(8,.int .i64 i)]) p (λ(i:Nat) b=>[(4,.int .i64 i)]) _ (λi b hi hl=>?_) ?_
 ·have hw:=aQ i (by first|omega|(simp at hl;omega));obtain⟨_,rfl⟩:=aF.1 hi;have u1:=hf l[i] (bx hl);try simp at u1
  simp -implicitDefEqProofs [Cv,MC,hl,hw,u1,ho,wj];all_goals (repeat' split)<;>first|rfl|omega|(simp_all;done)|(simp_all;omega)|skip
 ·simp -implicitDefEqProofs [Cv,MC]
def YH(l:List Kp)(k:Kp)(gf:Nat)(p:Kp->Bool)(ho:aj TT gf=true)(hf:∀x∈l,ev LI TT gf [.agg (aE .af x),.ptr .af (aE .af k)]=some (.bool (p x),[.dead,.dead]))(hb:l.length<=9223372036854775807):ev LI TT 147 [.row .af 9 (l.map (aE .af)),.fn gf [.ptr .af (aE .af k)]]=some (.int .i64 ((cU p 0 l).elim (-1) λx=>(x.1:Int)),[.dead,.dead]):=by
 rw[aq (b:=Cw) (rs:=[.t 4]) (n:=2) rfl rfl];have u1:=VV l k gf p ho hf hb;try simp at u1
 cases g:cU p 0 l with
 |none=>rw[g] at u1;simp at u1;simp -implicitDefEqProofs [Cw,u1]
 |some x=>
 rw[g] at u1;simp at u1;simp -implicitDefEqProofs [Cw,u1];all_goals (repeat' split)<;>first|rfl|omega|(simp_all;done)|(simp_all;omega)|skip
def IG(l:List Kp)(k:Kp)(gf:Nat)(p:Kp->Bool)(ho:aj TT gf=true)(hf:∀x∈l,ev LI TT gf [.agg (aE .af x),.ptr .af (aE .af k)]=some (.bool (p x),[.dead,.dead]))(hb:l.length<=9223372036854775807):ev LI TT 76 [.row .af 9 (l.map (aE .af)),.fn gf [.ptr .af (aE .af k)]]=some (.bool (!aM (λx=> !p x) l),[.dead,.dead]):=by
 rw[aq (b:=Co) (rs:=[.t 4]) (n:=2) rfl rfl];have u1:=YH l k gf p ho hf hb;try simp at u1
 rw[<-Jg p l 0];cases g:cU p 0 l with
 |none=>rw[g] at u1;simp at u1;simp -implicitDefEqProofs [Co,u1]
 |some x=>
 rw[g] at u1;simp at u1;simp -implicitDefEqProofs [Co,u1];all_goals (repeat' split)<;>first|rfl|omega|(simp_all;done)|(simp_all;omega)|skip
def UJ(s:Sh)(hb:cm s<=1073741824):∃sl,aG (ai (ev LI TT) (aj TT) mX) [(0,.ptr .af (aL .af s)),(3,.int .i64 0),(7,.ptr .af (aL .af s)),(8,.ptr .af (aL .af s)),(9,.ptr .af ((aL .af s).drop 2)),(10,.row .af 9 (s.av.map (aE .af))),(11,.int .i64 s.av.length),(12,.int .i64 0)]=if tZ s.seq s.av=true then some (.exit 0,sl) else some (.ret,[(2,.bool false)]):=by
 have eH:cm s=cv s.aP+wL bP s.av+wL aV s.aU:=rfl;have hlen:=bn (w:=bP) s.av;refine⟨_,cZ (f:=ai (ev LI TT) (aj TT) mX) s.av.zipIdx (λi=>[(0,.ptr .af (aL .af s)),(3,.int .i64 (nA s.av i)),(7,.ptr .af (aL .af s)),(8,.ptr .af (aL .af s)),(9,.ptr .af ((aL .af s).drop 2)),(10,.row .af 9 (s.av.map (aE .af))),(11,.int .i64 s.av.length),(12,.int .i64 i)]) (rC s.seq s.av) [(2,.bool false)] [(0,.ptr .af (aL .af s)),(3,.int .i64 (nA s.av s.av.length)),(7,.ptr .af (aL .af s)),(8,.ptr .af (aL .af s)),(9,.ptr .af ((aL .af s).drop 2)),(10,.row .af 9 (s.av.map (aE .af))),(11,.int .i64 s.av.length),(12,.int .i64 s.av.length),(13,.bool false)] (λi b hi hl=>?_) ?_⟩
 ·simp only[ym] at hl;have hw:=aQ i (by omega);obtain⟨_,rfl⟩:=aF.1 hi;have hz:s.av.zipIdx[i]'(by simpa using hl)=(s.av[i],i):=by simp
  have hm:=xU (bx hl);have hp:=Lf s.av i hl;rw[hz];have hs:iy []=true:=rfl;have u1:=C3 s.av[i].obj (by omega);have u2:=IG (s.av.take i) s.av[i] 197 (λx=>decide (x.at_=(s.av[i]).at_)) rfl (λx _=>W7 x s.av[i]) (by simp;omega);have hle:(i:Int)<=s.av.length:=by omega
  have hle2:i<=s.av.length:=by omega
  simp at u1 u2;unfold rC;by_cases g1:cO (s.av[i]).obj=true;rotate_left;·simp -implicitDefEqProofs [mX,pJ,hl,hw,hle,hle2,jH,gC,fI,u1,u2,g1]
  by_cases g2:5<=(s.av[i]).at_;rotate_left;·simp -implicitDefEqProofs [mX,pJ,hl,hw,hle,hle2,jH,gC,fI,u1,u2,g1,eq_false g2]
  by_cases g3:(s.av[i]).at_<=19;rotate_left;·simp -implicitDefEqProofs [mX,pJ,hl,hw,hle,hle2,jH,gC,fI,u1,u2,g1,eq_true g2,eq_false g3]
  by_cases g4:aM (λy:Kp=> !decide (y.at_=(s.av[i]).at_)) (s.av.take i)=true;rotate_left;·simp -implicitDefEqProofs [mX,pJ,hl,hw,hle,hle2,jH,gC,fI,u1,u2,g1,eq_true g2,eq_true g3,g4]
  by_cases g5:nA s.av i<(s.av[i]).seq;rotate_left
  ·have qU:(s.av[i]).seq<=nA s.av i:=by omega
   simp -implicitDefEqProofs [mX,pJ,hl,hw,hle,hle2,jH,gC,fI,u1,u2,g1,eq_true g2,eq_true g3,g4,eq_false g5,eq_true qU]
  have qU:¬(s.av[i]).seq<=nA s.av i:=by omega
  by_cases g6:(s.av[i]).seq<s.seq;rotate_left
  ·have Jq:s.seq<=(s.av[i]).seq:=by omega
   simp -implicitDefEqProofs [mX,pJ,hl,hw,hle,hle2,jH,gC,fI,u1,u2,g1,eq_true g2,eq_true g3,g4,eq_true g5,eq_false qU,eq_false g6,eq_true Jq]
  have Jq:¬s.seq<=(s.av[i]).seq:=by omega
  simp -implicitDefEqProofs [mX,pJ,hl,hw,hle,hle2,jH,gC,fI,u1,u2,g1,eq_true g2,eq_true g3,g4,eq_true g5,eq_false qU,eq_true g6,eq_false Jq,hp]
 ·simp -implicitDefEqProofs [mX,pJ]
def W6(s:Sh)(hb:cm s<=1073741824):ev LI TT 138 [.ptr .af (aL .af s)]=some (.bool (tZ s.seq s.av),[.dead]):=by rw[aq (b:=Ep) (rs:=[.t 2]) (n:=1) rfl rfl];obtain⟨sl,u1⟩:=UJ s hb;simp at u1;simp -implicitDefEqProofs [Ep,u1];all_goals (repeat' split)<;>first|rfl|omega|(simp_all;done)|(simp_all;omega)|skip
def Uw(s:Sh)(hb:cm s<=1073741824):aG (ai (ev LI TT) (aj TT) zT) [(1,.ptr .own (aL .af s)),(5,.aC 1 [] 0 3),(6,.row .af 4 (s.aU.map aW)),(7,.int .i64 s.aU.length),(8,.int .i64 0)]=if aM dV (s.aU)=true then some (.exit 0,[(1,.ptr .own (aL .af s)),(5,.aC 1 [] 0 3),(6,.row .af 4 (s.aU.map aW)),(7,.int .i64 s.aU.length),(8,.int .i64 (s.aU).length),(9,.bool false)]) else some (.ret,[(2,.bool false)]):=by
 refine cZ (f:=ai (ev LI TT) (aj TT) zT) (s.aU) (λi=>[(1,.ptr .own (aL .af s)),(5,.aC 1 [] 0 3),(6,.row .af 4 (s.aU.map aW)),(7,.int .i64 s.aU.length),(8,.int .i64 i)]) dV _ _ (λi b hi hl=>?_) ?_
 ·have hw:=aQ i (by have eH:cm s=cv s.aP+wL bP s.av+wL aV s.aU:=rfl;have:=bn (w:=aV) s.aU;omega);obtain⟨_,rfl⟩:=aF.1 hi;have eH:cm s=cv s.aP+wL bP s.av+wL aV s.aU:=rfl;have hm:=G7 (bx hl);have u1:=H9 s.aU[i] (by omega);try simp at u1
  simp -implicitDefEqProofs [zT,J7,hl,hw,u1];all_goals (repeat' split)<;>first|rfl|omega|(simp_all;done)|(simp_all;omega)|skip
 ·simp -implicitDefEqProofs [zT,J7]
def WY(s:Sh)(hb:cm s<=1073741824):ev LI TT 73 [.agg (aL .af s)]=some (.bool ((lz s)),[.dead]):=by
 rw[aq (b:=mW) (rs:=[.t 2]) (n:=1) rfl rfl];have eH:cm s=cv s.aP+wL bP s.av+wL aV s.aU:=rfl;have QG:cv s.aP=wL wS s.aP.cells+wL cl s.aP.pending:=rfl;have hlen:=bn (w:=cl) s.aP.pending;unfold lz;have u1:=Ia s.aP (by omega);try simp at u1
 have u2:=Uw s hb;try simp at u2
 have u3:=W6 s hb;try simp at u3
 by_cases g1:aM dV s.aU=true;rotate_left;·simp -implicitDefEqProofs [mW,u1,u2,u3,g1]
 by_cases g2:(s.aU.length:Int)<=5;rotate_left;·simp -implicitDefEqProofs [mW,u1,u2,u3,g1,eq_false g2]
 by_cases g3:5<=s.next
 rotate_left;·simp -implicitDefEqProofs [mW,u1,u2,u3,g1,eq_true g2,eq_false g3]
 by_cases g4:s.next<=19
 rotate_left;·simp -implicitDefEqProofs [mW,u1,u2,u3,g1,eq_true g2,eq_true g3,eq_false g4]
 by_cases g5:1<=s.seq;rotate_left;·simp -implicitDefEqProofs [mW,u1,u2,u3,g1,eq_true g2,eq_true g3,eq_true g4,eq_false g5]
 by_cases g6:s.seq<=100000;rotate_left;·simp -implicitDefEqProofs [mW,u1,u2,u3,g1,eq_true g2,eq_true g3,eq_true g4,eq_true g5,eq_false g6]
 by_cases g7:dc s.aP=true;rotate_left;·simp -implicitDefEqProofs [mW,u1,u2,u3,g1,eq_true g2,eq_true g3,eq_true g4,eq_true g5,eq_true g6,g7]
 simp -implicitDefEqProofs [mW,u1,u2,u3,g1,eq_true g2,eq_true g3,eq_true g4,eq_true g5,eq_true g6,g7];all_goals (repeat' split)<;>first|rfl|omega|(simp_all;done)|(simp_all;omega)|skip
end M
set_option maxHeartbeats 4000000
namespace M
open Go
def Jc(l:List aJ):(jb l).length<=4*wL aN l:=by
 unfold jb;induction l with
 |nil=>simp[wL]
 |cons f l ih=>simp only[jL,iD,wL,cR,bD,sx,qQ,aN,kM] at*;omega
def afb:(⟨#[58,32]⟩:ByteArray)=⟨colon.toArray⟩:=rfl
def KW:(⟨#[13,10]⟩:ByteArray)=⟨crlf.toArray⟩:=rfl
def afe:(⟨#[13,10,13,10]⟩:ByteArray)=⟨bh.toArray⟩:=rfl
def Rk:(⟨#[72,84,84,80,47,49,46,49,32]⟩:ByteArray)=⟨(oc++[32]).toArray⟩:=rfl
def afc:(⟨#[32,46]⟩:ByteArray)=⟨([32,46]:ag).toArray⟩:=rfl
def afd:(⟨#[32,46,13,10]⟩:ByteArray)=⟨([32,46]++crlf:ag).toArray⟩:=rfl
def Rh:(⟨#[99,111,110,116,101,110,116,45,108,101,110,103,116,104,58,32]⟩:ByteArray)=⟨(dG++colon).toArray⟩:=rfl
def Ri:(⟨#[111,98,106,32]⟩:ByteArray)=⟨(nw++[32]).toArray⟩:=rfl
def Rj:(⟨#[32]⟩:ByteArray)=⟨([32]:ag).toArray⟩:=rfl
def Fz:(⟨#[10]⟩:ByteArray)=⟨([10]:ag).toArray⟩:=rfl
def AQ:colon.length=2:=rfl
def AR:crlf.length=2:=rfl
def Rl:bh.length=4:=rfl
def KX:oc.length=8:=rfl
def FA:dG.length=14:=rfl
def FB:nw.length=3:=rfl
def Vj(fs:List aJ)(hb:wL aN fs<=1073741824)(g:ag)(hinv:g.length<=4*(wL aN (fs.take 0))):aG (ai (ev LI TT) (aj TT) Bu) [(0,.row .af 2 (fs.map aK)),(3,.str ⟨(g).toArray⟩),(4,.int .i64 0)]=some (.exit 0,[(0,.row .af 2 (fs.map aK)),(3,.str ⟨((foldI (λ_ g f=>g++qQ f) 0 (fs) g)).toArray⟩),(4,.int .i64 (fs).length),(8,.bool false)]):=by
 refine iu (f:=ai (ev LI TT) (aj TT) Bu) (fs) (λi (g:ag)=>[(0,.row .af 2 (fs.map aK)),(3,.str ⟨(g).toArray⟩),(4,.int .i64 i)]) (λ_ g f=>g++qQ f) (λg=>[(0,.row .af 2 (fs.map aK)),(3,.str ⟨(g).toArray⟩),(4,.int .i64 (fs).length),(8,.bool false)]) (λi (g:ag)=>g.length<=4*(wL aN (fs.take i))) g hinv (λi b g hi hl hinv=>?_) (λi b g hi hinv=>?_) (λg hinv=>?_)
 ·have hw:=aQ i (by have:=bn (w:=aN) fs;omega);obtain⟨_,rfl⟩:=aF.1 hi;have hm:=G9 (bx hl);have ht:=Mw aN fs i;have q1:g.length+(fs[i]).name.length<=9223372036854775807:=by omega
  have q2:g.length+((fs[i]).name.length+2)<=9223372036854775807:=by omega
  have q3:g.length+((fs[i]).name.length+(2+(fs[i]).value.length))<=9223372036854775807:=by omega
  simp -implicitDefEqProofs [Bu,LF,hl,hw,afb,KW,iP,AQ,AR,qQ];exact⟨by omega,by omega,by omega,by omega,by simp[colon,crlf]⟩
 ·obtain⟨hl,rfl⟩:=aF.1 hi;rw[oI hl];simp only[wL,iD,jq,CC,cR,kM,bD,mD,sx,MU,qQ,aN] at*;omega
 ·simp -implicitDefEqProofs [Bu,LF]
def Dz{β:Type}(f:β->ag):∀(l:List β) (i:Nat) (g:ag),foldI (λ_ g b=>g++f b) i l g=g++l.flatMap f
 |[],_,g=>by simp[foldI]
 |b::l,i,g=>by rw[foldI,Dz f l];simp
def Yh(fs:List aJ)(hb:wL aN fs<=1073741824):ev LI TT 185 [.row .af 2 (fs.map aK)]=some (.str ⟨(jb fs).toArray⟩,[.dead]):=by
 rw[aq (b:=Gc) (rs:=[.t 2]) (n:=1) rfl rfl];have u1:=Vj fs hb [] (by simp);try simp at u1
 rw[Dz,eN,show fs.flatMap (λf=>qQ f)=jb fs from rfl] at u1;simp -implicitDefEqProofs [Gc,u1];all_goals (repeat' split)<;>first|rfl|omega|(simp_all;done)|(simp_all;omega)|skip
structure VX (r:cg):Prop where
 s0:100<=r.status
 s1:r.status<=599
 f:jt r.fields=true
 b:r.body.length<=120
 nt:eM r.status=aX r.status.toNat
 nb:eM (r.body.length:Int)=aX r.body.length
 ls:(aX r.status.toNat).length<=7
 lb:(aX r.body.length).length<=7
 Mr:fQ r=oc++32::(aX r.status.toNat++32::46::(crlf++(jb r.fields++(dG++(colon++(aX r.body.length++(bh++r.body)))))))
def F2{r:cg}(h:fP r=true):VX r:=by
 obtain⟨h1,h2,h3⟩:=Lo h;refine⟨h1.1,h1.2,h2,h3,?_,?_,sZ _ (by omega),sZ _ (by omega),?_⟩;·unfold eM;rw[ay (by omega)]
 ·exact FR _ (by omega)
 ·unfold fQ;rw[ay h,Ss];simp[kE,jX,colon]
def On(r:cg)(hb:bC r<=1073741824):ev LI TT 123 [.agg (iI .af r)]=some (.str ⟨(fQ r).toArray⟩,[.dead]):=by
 rw[aq (b:=BF) (rs:=[.t 2]) (n:=1) rfl rfl];have hw:bC r=wL aN r.fields+r.body.length:=rfl;have hfl:=Jc r.fields;have hft:=Yh r.fields (by omega);have u1:=Om r hb;try simp at u1
 have u2:=vm r.status;try simp at u2
 have u3:=vm (r.body.length:Int);try simp at u3
 by_cases hok:fP r=true;rotate_left;·have e:fQ r=[]:=(Lq r).2 hok;rw[show fP r=false by simpa using hok] at u1;simp -implicitDefEqProofs [BF,u1,e]
 rw[hok] at u1;have A:=F2 hok;rw[A.nt] at u2;rw[A.nb] at u3;have a1:=A.ls;have a2:=A.lb;have a3:=A.b;try simp at hft
 rw[A.Mr];generalize jb r.fields=T at hft hfl;generalize aX r.status.toNat=D at u2 a1;generalize aX r.body.length=E at u3 a2;simp -implicitDefEqProofs [BF,u1,u2,u3,hft,Rk,afd,Rh,afe,iP,KX,AR,FA,AQ,Rl];all_goals (try omega)
def Xd(b:ag)(hb:b.length<=1000000):ev LI TT 268 [.str ⟨b.toArray⟩]=some (.str ⟨(dG++(colon++(aX b.length++crlf))).toArray⟩,[.dead]):=by
 rw[aq (b:=EJ) (rs:=[.t 2]) (n:=1) rfl rfl];have l7:=sZ b.length hb;have u1:=sO b.length (by omega);try simp at u1
 simp -implicitDefEqProofs [EJ,u1,Rh,KW,iP,FA,AQ,AR];all_goals (try omega)
def N0(r:cg)(hb:bC r<=1073741824):ev LI TT 244 [.agg (iI .af r)]=some (.str ⟨(fQ r).toArray⟩,[.dead]):=by
 rw[aq (b:=zS) (rs:=[.t 2]) (n:=1) rfl rfl];have hw:bC r=wL aN r.fields+r.body.length:=rfl;have hfl:=Jc r.fields;have q5:=bn (w:=aN) r.fields;have hft:=WO r.fields (by omega) (by omega);have u1:=NZ r hb;try simp at u1
 by_cases hok:fP r=true;rotate_left;·have e:fQ r=[]:=(Lq r).2 hok;rw[show fP r=false by simpa using hok] at u1;simp -implicitDefEqProofs [zS,u1,e]
 rw[hok] at u1;have A:=F2 hok;have a0:=A.s0;have a0':=A.s1;have a1:=A.ls;have a2:=A.lb;have a3:=A.b;have hst:r.status=((r.status.toNat:Nat):Int):=by omega
 have u2:=sO r.status.toNat (by omega);rw[<-hst] at u2;have u3:=Xd r.body (by omega);try simp at hft
 try simp at u2
 try simp at u3
 rw[A.Mr];generalize jb r.fields=T at hft hfl;generalize aX r.status.toNat=D at u2 a1;generalize aX r.body.length=E at u3 a2;simp -implicitDefEqProofs [zS,u1,hft,u2,u3,Rk,afc,KW,iP,KX,AR,FA,AQ];refine⟨by omega,by omega,by omega,by omega,by omega,by omega,by omega,?_⟩;simp[crlf,bh]
def Tm(l:List ag):(iT l).length<=2*wL wS l:=by
 unfold iT;induction l with
 |nil=>simp[wL]
 |cons v l ih=>simp only[jL,iD,wL,cR,bD,sx,wS,kM] at*;omega
def Sy(r:cg):(fQ r).length<=4*bC r+60:=by
 by_cases h:fP r=true;·have A:=F2 h;have hfl:=Jc r.fields;have a1:=A.ls;have a2:=A.lb;rw[A.Mr];have hw:bC r=wL aN r.fields+r.body.length:=rfl;simp[KX,AR,FA,AQ,Rl];omega
 ·rw[(Lq r).2 h];simp
def Vr(o:Ob)(hb:aZ o<=1073741824)(g:ag)(hinv:g.length<=9223372036+2*(wL wS (o.values.take 0))):aG (ai (ev LI TT) (aj TT) BD) [(1,.ptr .own (bA .af o)),(3,.str ⟨(g).toArray⟩),(4,.int .i64 0)]=some (.exit 0,[(1,.ptr .own (bA .af o)),(3,.str ⟨((foldI (λ_ g v=>g++(v++[10])) 0 (o.values) g)).toArray⟩),(4,.int .i64 (o.values).length),(27,.bool false)]):=by
 refine iu (f:=ai (ev LI TT) (aj TT) BD) (o.values) (λi (g:ag)=>[(1,.ptr .own (bA .af o)),(3,.str ⟨(g).toArray⟩),(4,.int .i64 i)]) (λ_ g v=>g++(v++[10])) (λg=>[(1,.ptr .own (bA .af o)),(3,.str ⟨(g).toArray⟩),(4,.int .i64 (o.values).length),(27,.bool false)]) (λi (g:ag)=>g.length<=9223372036+2*(wL wS (o.values.take i))) g hinv (λi b g hi hl hinv=>?_) (λi b g hi hinv=>?_) (λg hinv=>?_);·have hw:=aQ i (by have hw:aZ o=o.path.length+wL wS o.names+wL wS o.values+bC o.resp:=rfl;have:=bn (w:=wS) o.values;omega);obtain⟨_,rfl⟩:=aF.1 hi;have hw0:aZ o=o.path.length+wL wS o.names+wL wS o.values+bC o.resp:=rfl;have hm:=xV (bx hl);have ht:=Mw wS o.values i;simp -implicitDefEqProofs [BD,LL,hl,hw,Fz,iP];all_goals (try omega)
 ·obtain⟨hl,rfl⟩:=aF.1 hi;rw[oI hl];simp only[wL,iD,jq,CC,cR,kM,bD,mD,sx,MU,wS] at*;omega
 ·simp -implicitDefEqProofs [BD,LL]
def Iy(o:Ob)(hb:aZ o<=1073741824):ev LI TT 64 [.agg (bA .af o)]=some (.str ⟨(eY o).toArray⟩,[.dead]):=by
 rw[aq (b:=BE) (rs:=[.t 2]) (n:=1) rfl rfl];have hw:aZ o=o.path.length+wL wS o.names+wL wS o.values+bC o.resp:=rfl;have hrl:=Sy o.resp;have hvl:=Tm o.values;have hft:=On o.resp (by omega);have u1:=C5 o (by omega);try simp at u1
 have u2:=vm o.t;try simp at u2
 have u3:=vm (o.values.length:Int);try simp at u3
 by_cases hok:cO o=true;rotate_left;·have e:eY o=[]:=(RL o).2 hok;rw[show cO o=false by simpa using hok] at u1;simp -implicitDefEqProofs [BE,u1,e]
 rw[hok] at u1;have A:=Bb hok;have a1:=A.len;have a2:=A.n4;have a3:=FQ o.t;have a4:=sZ o.values.length (by omega);rw[FR o.values.length (by omega)] at u3;have et:eY o=nw++32::(o.path++32::(eM o.t++32::(aX o.values.length++10::(iT o.values++fQ o.resp)))):=by unfold eY me rQ fQ;rw[ay hok,ay A.resp];simp
 have hlp:=Vr o hb (nw++32::(o.path++32::(eM o.t++32::(aX o.values.length++[10])))) (by simp[FB];omega);rw[Dz,show o.values.flatMap (λv=>v++[10])=iT o.values from rfl] at hlp;try simp at hlp
 try simp at hft
 rw[et];generalize fQ o.resp=R at hft hrl;generalize aX o.values.length=E at u3 a4 hlp;generalize iT o.values=V at hvl hlp;simp -implicitDefEqProofs [BE,u1,u2,u3,hft,hlp,Ri,Rj,Fz,iP,FB];all_goals (try omega)
def Uv(o:Ob)(hb:aZ o<=1073741824)(g:ag)(hinv:g.length<=9223372036+2*(wL wS (o.values.take 0))):aG (ai (ev LI TT) (aj TT) zQ) [(1,.ptr .own (bA .af o)),(3,.str ⟨(g).toArray⟩),(24,.aC 1 [] 0 2),(25,.row .af 1 (o.values.map eS)),(26,.int .i64 o.values.length),(27,.int .i64 0)]=some (.exit 0,[(1,.ptr .own (bA .af o)),(3,.str ⟨((foldI (λ_ g v=>g++(v++[10])) 0 (o.values) g)).toArray⟩),(24,.aC 1 [] 0 2),(25,.row .af 1 (o.values.map eS)),(26,.int .i64 o.values.length),(27,.int .i64 (o.values).length),(28,.bool false)]):=by
 refine iu (f:=ai (ev LI TT) (aj TT) zQ) (o.values) (λi (g:ag)=>[(1,.ptr .own (bA .af o)),(3,.str ⟨(g).toArray⟩),(24,.aC 1 [] 0 2),(25,.row .af 1 (o.values.map eS)),(26,.int .i64 o.values.length),(27,.int .i64 i)]) (λ_ g v=>g++(v++[10])) (λg=>[(1,.ptr .own (bA .af o)),(3,.str ⟨(g).toArray⟩),(24,.aC 1 [] 0 2),(25,.row .af 1 (o.values.map eS)),(26,.int .i64 o.values.length),(27,.int .i64 (o.values).length),(28,.bool false)]) (λi (g:ag)=>g.length<=9223372036+2*(wL wS (o.values.take i))) g hinv (λi b g hi hl hinv=>?_) (λi b g hi hinv=>?_) (λg hinv=>?_);·have hw:=aQ i (by have hw:aZ o=o.path.length+wL wS o.names+wL wS o.values+bC o.resp:=rfl;have:=bn (w:=wS) o.values;omega);obtain⟨_,rfl⟩:=aF.1 hi;have hw0:aZ o=o.path.length+wL wS o.names+wL wS o.values+bC o.resp:=rfl;have hm:=xV (bx hl);have ht:=Mw wS o.values i;simp -implicitDefEqProofs [zQ,J6,hl,hw,Fz,iP];all_goals (try omega)
 ·obtain⟨hl,rfl⟩:=aF.1 hi;rw[oI hl];simp only[wL,iD,jq,CC,cR,kM,bD,mD,sx,MU,wS] at*;omega
 ·simp -implicitDefEqProofs [zQ,J6]
def WV(o:Ob)(hb:aZ o<=1073741824):ev LI TT 205 [.agg (bA .af o)]=some (.str ⟨(eY o).toArray⟩,[.dead]):=by
 rw[aq (b:=zR) (rs:=[.t 2]) (n:=1) rfl rfl];have hw:aZ o=o.path.length+wL wS o.names+wL wS o.values+bC o.resp:=rfl;have hrl:=Sy o.resp;have hvl:=Tm o.values;have hvn:=bn (w:=wS) o.values;have hft:=N0 o.resp (by omega);have u1:=C3 o (by omega);try simp at u1
 have u2:=NW o.t;try simp at u2
 have u3:=sO o.values.length (by omega);try simp at u3
 by_cases hok:cO o=true;rotate_left;·have e:eY o=[]:=(RL o).2 hok;rw[show cO o=false by simpa using hok] at u1;simp -implicitDefEqProofs [zR,u1,e]
 rw[hok] at u1;have A:=Bb hok;have a1:=A.len;have a2:=A.n4;have a3:=FQ o.t;have a4:=sZ o.values.length (by omega);have et:eY o=nw++32::(o.path++32::(eM o.t++32::(aX o.values.length++10::(iT o.values++fQ o.resp)))):=by unfold eY me rQ fQ;rw[ay hok,ay A.resp];simp
 have hlp:=Uv o hb (nw++32::(o.path++32::(eM o.t++32::(aX o.values.length++[10])))) (by simp[FB];omega);rw[Dz,show o.values.flatMap (λv=>v++[10])=iT o.values from rfl] at hlp;try simp at hlp
 try simp at hft
 rw[et];generalize fQ o.resp=R at hft hrl;generalize aX o.values.length=E at u3 a4 hlp;generalize iT o.values=V at hvl hlp;simp -implicitDefEqProofs [zR,u1,u2,u3,hft,hlp,Ri,Rj,Fz,iP,FB];all_goals (try omega)
end M
set_option maxHeartbeats 4000000
namespace M
open Go
def P7(fs:List aJ)(n v:ag):(decide (ei fs n=some v))=((ei fs n).isSome && decide ((ei fs n).getD []=v)):=by cases ei fs n<;>simp
def agR(p s:ag):p.isPrefixOf s=(decide (p.length<=s.length) && decide (s.take p.length=p)):=by have:=Lib.hasPrefix_of_take s p;unfold Lib.hasPrefix at this;rw[<-this];congr 1;rw[Hz];simp
def Yj(b:Bn)(o:Ob)(h1:aV b<=1073741824)(h2:aZ o<=1073741824):ev LI TT 121 [.agg (aW b),.agg (bA .af o)]=some (.bool (lZ b o),[.dead,.dead]):=by
 rw[aq (b:=nD) (rs:=[.t 4]) (n:=2) rfl rfl];have hw:aV b=b.a.length+b.b.length:=rfl;have fF:aZ o=o.path.length+wL wS o.names+wL wS o.values+bC o.resp:=rfl;have tA:bC o.resp=wL aN o.resp.fields+o.resp.body.length:=rfl;have l1:=bn (w:=aN) o.resp.fields;unfold lZ;rw[P7,agR];have u1:=Iv b h1;try simp at u1
 have u2:=C5 o (by omega);try simp at u2
 have u3:=Iw o.resp.fields b.a (by omega);try simp at u3
 generalize dV b=b1 at u1;cases b1;·simp -implicitDefEqProofs [nD,u1]
 generalize cO o=b2 at u2;cases b2;·simp -implicitDefEqProofs [nD,u1,u2]
 by_cases g1:o.t<=b.t;rotate_left
 ·have dz:b.t<o.t:=by omega
  simp -implicitDefEqProofs [nD,u1,u2,g1,dz]
 have dz:¬b.t<o.t:=by omega
 by_cases g2:b.kind=1;·rw[g2] at u1;simp -implicitDefEqProofs [nD,u1,u2,g1,dz,g2]
 by_cases g3:b.kind=2
 ·rw[g3] at u1;by_cases g4:b.a.length<=o.path.length
  ·have lV:(b.a.length:Int)<=o.path.length:=by omega
   by_cases g5:o.path.take b.a.length=b.a;·simp -implicitDefEqProofs [nD,u1,u2,g1,dz,g2,g3,g4,lV,Lib.extract_mk,eq_true g5]
   ·simp -implicitDefEqProofs [nD,u1,u2,g1,dz,g2,g3,g4,lV,Lib.extract_mk,eq_false g5]
  ·have lV:¬(b.a.length:Int)<=o.path.length:=by omega
   simp -implicitDefEqProofs [nD,u1,u2,g1,dz,g2,g3,g4,lV]
 generalize (ei o.resp.fields b.a).isSome=b3 at u3;cases b3;all_goals
 simp -implicitDefEqProofs [nD,u1,u2,u3,g1,dz,g2,g3];all_goals (repeat' split)<;>first|rfl|omega|(simp_all;done)|(simp_all;omega)|skip
def WR(b:Bn)(o:Ob)(h1:aV b<=1073741824)(h2:aZ o<=1073741824):ev LI TT 170 [.agg (aW b),.agg (bA .af o)]=some (.bool (lZ b o),[.dead,.dead]):=by
 rw[aq (b:=pH) (rs:=[.t 4]) (n:=2) rfl rfl];have hw:aV b=b.a.length+b.b.length:=rfl;have fF:aZ o=o.path.length+wL wS o.names+wL wS o.values+bC o.resp:=rfl;have tA:bC o.resp=wL aN o.resp.fields+o.resp.body.length:=rfl;have l1:=bn (w:=aN) o.resp.fields;unfold lZ;rw[P7,show b.a.isPrefixOf o.path=Lib.hasPrefix o.path b.a from rfl];have u1:=H9 b h1;try simp at u1
 have u2:=C3 o (by omega);try simp at u2
 have u3:=Ib o.resp.fields b.a (by omega);try simp at u3
 have u4:=YM o.path b.a;try simp at u4
 by_cases g1:o.t<=b.t;rotate_left
 ·have dz:b.t<o.t:=by omega
  simp -implicitDefEqProofs [pH,u1,u2,g1,dz]
 have dz:¬b.t<o.t:=by omega
 generalize dV b=b1 at u1;cases b1;·simp -implicitDefEqProofs [pH,u1,g1,dz]
 generalize cO o=b2 at u2;cases b2;·simp -implicitDefEqProofs [pH,u1,u2,g1,dz]
 by_cases g2:b.kind=1;·rw[g2] at u1;simp -implicitDefEqProofs [pH,u1,u2,g1,dz,g2]
 by_cases g3:b.kind=2;·rw[g3] at u1;simp -implicitDefEqProofs [pH,u1,u2,u4,g1,dz,g2,g3]
 generalize (ei o.resp.fields b.a).isSome=b3 at u3;cases b3;all_goals
 simp -implicitDefEqProofs [pH,u1,u2,u3,u4,g1,dz,g2,g3];all_goals (repeat' split)<;>first|rfl|omega|(simp_all;done)|(simp_all;omega)|skip
def Qv(l:List Bn)(o:Ob):aM (λb=> !lZ b o) l= !o8 l o:=by
 unfold o8 aM;induction l with
 |nil=>rfl
 |cons b l ih=>simp only[List.all_cons,List.any_cons,ih,Bool.not_or]
def Vk(l:List Bn)(o:Ob)(h1:wL aV l<=1073741824)(h2:aZ o<=1073741824):aG (ai (ev LI TT) (aj TT) Bw) [(0,.row .af 4 (l.map aW)),(3,.ptr .own (bA .af o)),(5,.int .i64 0)]=if aM (λb=> !lZ b o) (l)=true then some (.exit 0,[(0,.row .af 4 (l.map aW)),(3,.ptr .own (bA .af o)),(5,.int .i64 (l).length),(9,.bool false)]) else some (.ret,[(4,.bool true)]):=by
 refine cZ (f:=ai (ev LI TT) (aj TT) Bw) (l) (λi=>[(0,.row .af 4 (l.map aW)),(3,.ptr .own (bA .af o)),(5,.int .i64 i)]) (λb=> !lZ b o) _ _ (λi b hi hl=>?_) ?_
 ·have hw:=aQ i (by have:=bn (w:=aV) l;omega);obtain⟨_,rfl⟩:=aF.1 hi;have hm:=G7 (bx hl);have u1:=Yj l[i] o (by omega) h2;try simp at u1
  cases hh:lZ l[i] o<;>rw[hh] at u1;all_goals
  simp -implicitDefEqProofs [Bw,LG,hl,hw,u1,hh];all_goals (repeat' split)<;>first|rfl|omega|(simp_all;done)|(simp_all;omega)|skip
 ·simp -implicitDefEqProofs [Bw,LG]
def Yk(l:List Bn)(o:Ob)(h1:wL aV l<=1073741824)(h2:aZ o<=1073741824):ev LI TT 58 [.row .af 4 (l.map aW),.agg (bA .af o)]=some (.bool (o8 l o),[.dead,.dead]):=by
 rw[aq (b:=Ge) (rs:=[.t 4]) (n:=2) rfl rfl];have u1:=Vk l o h1 h2;try simp at u1
 rw[Qv] at u1;cases hh:o8 l o<;>rw[hh] at u1;all_goals try simp at u1
 all_goals
 simp -implicitDefEqProofs [Ge,u1];all_goals (repeat' split)<;>first|rfl|omega|(simp_all;done)|(simp_all;omega)|skip
def Us(l:List Bn)(o:Ob)(h1:wL aV l<=1073741824)(h2:aZ o<=1073741824):aG (ai (ev LI TT) (aj TT) zL) [(0,.row .af 4 (l.map aW)),(3,.ptr .own (bA .af o)),(7,.row .af 4 (l.map aW)),(8,.int .i64 l.length),(9,.int .i64 0)]=if aM (λb=> !lZ b o) (l)=true then some (.exit 0,[(0,.row .af 4 (l.map aW)),(3,.ptr .own (bA .af o)),(7,.row .af 4 (l.map aW)),(8,.int .i64 l.length),(9,.int .i64 (l).length),(10,.bool false)]) else some (.ret,[(4,.bool true)]):=by
 refine cZ (f:=ai (ev LI TT) (aj TT) zL) (l) (λi=>[(0,.row .af 4 (l.map aW)),(3,.ptr .own (bA .af o)),(7,.row .af 4 (l.map aW)),(8,.int .i64 l.length),(9,.int .i64 i)]) (λb=> !lZ b o) _ _ (λi b hi hl=>?_) ?_
 ·have hw:=aQ i (by have:=bn (w:=aV) l;omega);obtain⟨_,rfl⟩:=aF.1 hi;have hm:=G7 (bx hl);have u1:=WR l[i] o (by omega) h2;try simp at u1
  cases hh:lZ l[i] o<;>rw[hh] at u1;all_goals
  simp -implicitDefEqProofs [zL,J3,hl,hw,u1,hh];all_goals (repeat' split)<;>first|rfl|omega|(simp_all;done)|(simp_all;omega)|skip
 ·simp -implicitDefEqProofs [zL,J3]
def WS(l:List Bn)(o:Ob)(h1:wL aV l<=1073741824)(h2:aZ o<=1073741824):ev LI TT 95 [.row .af 4 (l.map aW),.agg (bA .af o)]=some (.bool (o8 l o),[.dead,.dead]):=by
 rw[aq (b:=Ei) (rs:=[.t 4]) (n:=2) rfl rfl];have u1:=Us l o h1 h2;try simp at u1
 rw[Qv] at u1;cases hh:o8 l o<;>rw[hh] at u1;all_goals try simp at u1
 all_goals
 simp -implicitDefEqProofs [Ei,u1];all_goals (repeat' split)<;>first|rfl|omega|(simp_all;done)|(simp_all;omega)|skip
end M
namespace M
open Go
end M
set_option maxHeartbeats 4000000
namespace M
open Go
end M
set_option maxHeartbeats 4000000
namespace M
open Go
structure Cc where
 ns:Bool
 nc:Bool
 pr:Bool
 mu:Bool
 ha:Bool
 HQ:Int
@[simp] def fV(c:Cc):List X:=[.bool c.ns,.bool c.nc,.bool c.pr,.bool c.mu,.bool c.ha,.int .i64 c.HQ]
def fD:Cc:=⟨false,false,false,false,false,0⟩
def A9:ag:=[110,111,45,115,116,111,114,101]
def A8:ag:=[110,111,45,99,97,99,104,101]
def Ba:ag:=[112,114,105,118,97,116,101]
def A7:ag:=[109,117,115,116,45,114,101,118,97,108,105,100,97,116,101]
def k9:ag:=[109,97,120,45,97,103,101,61]
def vr(w:ag):Option Nat:=if Lib.hasPrefix w k9=true then some ((bq (w.drop 8)).getD 0) else none
def nS(c:Cc)(w:ag):Cc:=if w=A9 then {c with ns:=true} else if w=A8 then {c with nc:=true} else if w=Ba then {c with pr:=true} else if w=A7 then {c with mu:=true} else
 match vr w with
 |some n=>{c with ha:=true,HQ:=if c.ha=true then min (n:Int) c.HQ else n}
 |none=>c
def sR(v:ag):Cc:=(iA v).foldl (λc w=>nS c (ct w)) fD
def vt(fs:List aJ):Cc:=sR ((ei fs nv).getD [])
def K7:(⟨#[110,111,45,115,116,111,114,101]⟩:ByteArray)=⟨A9.toArray⟩/\(⟨#[110,111,45,99,97,99,104,101]⟩:ByteArray)=⟨A8.toArray⟩/\(⟨#[112,114,105,118,97,116,101]⟩:ByteArray)=⟨Ba.toArray⟩/\(⟨#[109,117,115,116,45,114,101,118,97,108,105,100,97,116,101]⟩:ByteArray)=⟨A7.toArray⟩/\(⟨#[109,97,120,45,97,103,101,61]⟩:ByteArray)=⟨k9.toArray⟩:=⟨rfl,rfl,rfl,rfl,rfl⟩
def YB(w:ag)(hb:w.length<=1073741824):ev LI TT 231 [.str ⟨w.toArray⟩]=some (.au [.int .i64 ((((vr w).getD 0:Nat):Int)),.bool ((vr w).isSome)],[.dead]):=by
 rw[aq (b:=xH) (rs:=[.t 2,.t 3]) (n:=1) rfl rfl];have hp:=Lib.hasPrefix_of_take w k9;have l8:k9.length=8:=rfl;have z:k9.toArray.size=8:=rfl;obtain⟨t1,t2,t3,t4,t5⟩:=K7;rw[l8] at hp;unfold vr;by_cases g8:w.length<8
 ·have:Lib.hasPrefix w k9=false:=by rw[<-hp];simp;omega
  have jT:(w.length:Int)<8:=by omega
  simp -implicitDefEqProofs [xH,t5,this,g8,jT,ByteArray.size,z,l8]
 have jT:¬(w.length:Int)<8:=by omega
 have g9:(8:Int)<=w.length:=by omega
 have g10:8<=w.length:=by omega
 have g11:decide (8<=w.length)=true:=by simp;omega
 rw[g11,M7] at hp;by_cases g:w.take 8=k9;rotate_left
 ·have:Lib.hasPrefix w k9=false:=by rw[<-hp];simpa using g
  simp -implicitDefEqProofs [xH,t5,this,g8,jT,g9,g10,ByteArray.size,z,l8,Lib.extract_mk,eq_false g]
 have:Lib.hasPrefix w k9=true:=by rw[<-hp];simpa using g
 have u1:=vl (w.drop 8) (by simp;omega);have hz:(w.drop 8).take (w.length - 8)=w.drop 8:=uI (by simp);simp -implicitDefEqProofs [xH,t5,this,g8,jT,g9,g10,ByteArray.size,z,l8,Lib.extract_mk,eq_true g,u1,hz];all_goals (repeat' split)<;>first|rfl|omega|(simp_all;done)|(simp_all;omega)|skip
def Vf(ws:List ag)(hl0:ws.length<=1073741825)(hb:∀w∈ws,w.length<=1073741824)(g:Cc):aG (ai (ev LI TT) (aj TT) oA) [(2,.ptr .own (fV fD)),(3,.ptr .own (fV g)),(4,.row .own 1 (ws.map eS)),(5,.int .i64 0)]=some (.exit 0,[(2,.ptr .own (fV fD)),(3,.ptr .own (fV ((ws).foldl (λc w=>nS c (ct w)) g))),(4,.row .own 1 (ws.map eS)),(5,.int .i64 (ws).length),(15,.bool false)]):=by
 refine FD (f:=ai (ev LI TT) (aj TT) oA) (ws) (λi (g:Cc)=>[(2,.ptr .own (fV fD)),(3,.ptr .own (fV g)),(4,.row .own 1 (ws.map eS)),(5,.int .i64 i)]) (λc w=>nS c (ct w)) (λg=>[(2,.ptr .own (fV fD)),(3,.ptr .own (fV g)),(4,.row .own 1 (ws.map eS)),(5,.int .i64 (ws).length),(15,.bool false)]) (λ_ _=>True) g trivial (λi b g hi hl _=>?_) (λ_ _ _ _ _=>trivial) (λg _=>?_)
 ·have hw:=aQ i (by first|omega|(simp at hl;omega));obtain⟨_,rfl⟩:=aF.1 hi;obtain⟨t1,t2,t3,t4,t5⟩:=K7;have hx:=hb _ (bx hl);have v1:=Oi ws[i] hx;have v2:(ct ws[i]).length<=1073741824:=by simp[ct];exact hx
  generalize ct ws[i]=w at v1 v2;have v3:=YB w v2;try simp at v1
  try simp at v3
  unfold nS;by_cases g1:w=A9;·simp -implicitDefEqProofs [oA,rU,hl,hw,v1,v3,t1,eq_true g1,fD]
  by_cases g2:w=A8;·simp -implicitDefEqProofs [oA,rU,hl,hw,v1,v3,t1,t2,eq_false g1,eq_true g2,fD]
  by_cases g3:w=Ba;·simp -implicitDefEqProofs [oA,rU,hl,hw,v1,v3,t1,t2,t3,eq_false g1,eq_false g2,eq_true g3,fD]
  by_cases g4:w=A7;·simp -implicitDefEqProofs [oA,rU,hl,hw,v1,v3,t1,t2,t3,t4,eq_false g1,eq_false g2,eq_false g3,eq_true g4,fD]
  cases ha:vr w with
  |none=>rw[ha] at v3;simp at v3;simp -implicitDefEqProofs [oA,rU,hl,hw,v1,v3,t1,t2,t3,t4,eq_false g1,eq_false g2,eq_false g3,eq_false g4,fD]
  |some n=>
  rw[ha] at v3;simp at v3;cases gh:g.ha;all_goals
  simp -implicitDefEqProofs [oA,rU,hl,hw,v1,v3,t1,t2,t3,t4,eq_false g1,eq_false g2,eq_false g3,eq_false g4,gh,fD];all_goals (repeat' split)<;>first|rfl|omega|(simp_all;done)|(simp_all;omega)|skip
 ·simp -implicitDefEqProofs [oA,rU]
def Ye(v:ag)(hb:v.length<=1073741824):ev LI TT 179 [.str ⟨v.toArray⟩]=some (.agg (fV (sR v)),[.dead]):=by
 rw[aq (b:=F6) (rs:=[.c 2 6 true 171]) (n:=1) rfl rfl];have hm:=Cn v;have hn:=Cm v;have u1:=Oo v hb;try simp at u1
 have u2:=Vf (iA v) (by omega) (λw hw=>by have:=hm w hw;omega) fD;try simp at u2
 rw[show (iA v).foldl (λc w=>nS c (ct w)) fD=sR v from rfl] at u2;simp[fD] at u2;simp -implicitDefEqProofs [F6,u1,u2,fD];all_goals (repeat' split)<;>first|rfl|omega|(simp_all;done)|(simp_all;omega)|skip
def Yd(fs:List aJ)(hb:wL aN fs<=1073741824):ev LI TT 113 [.row .af 2 (fs.map aK)]=some (.agg (fV (vt fs)),[.dead]):=by
 rw[aq (b:=F5) (rs:=[.c 2 6 true 171]) (n:=1) rfl rfl];have hfl:=bn (w:=aN) fs;have hg:=vG fs nv;have t3:(⟨#[99,97,99,104,101,45,99,111,110,116,114,111,108]⟩:ByteArray)=⟨nv.toArray⟩:=rfl;have u1:=Iw fs nv (by omega);try simp at u1
 have u2:=Ye ((ei fs nv).getD []) (by omega);try simp at u2
 rw[show sR ((ei fs nv).getD [])=vt fs from rfl] at u2;simp -implicitDefEqProofs [F5,u1,u2,t3];all_goals (repeat' split)<;>first|rfl|omega|(simp_all;done)|(simp_all;omega)|skip
def YR{w:ag}(h:w=A9\/w=A8\/w=Ba\/w=A7):Lib.hasPrefix w k9=false:=by rcases h with rfl|rfl|rfl|rfl<;>decide
def WL(c:Cc)(w:ag)(hb:w.length<=1073741824):ev LI TT 251 [.ptr .own (fV c),.str ⟨w.toArray⟩]=some (.au [],[.ptr .own (fV (nS c w)),.dead]):=by
 rw[aq (b:=pF) (rs:=[]) (n:=2) rfl rfl];obtain⟨t1,t2,t3,t4,t5⟩:=K7;have v3:=YL w k9 (by omega);have hword:=YR (w:=w);unfold nS;by_cases g1:w=A9;·rw[hword (Or.inl g1)] at v3;simp -implicitDefEqProofs [pF,v3,t1,t5,eq_true g1]
 by_cases g2:w=A8;·rw[hword (by simp[g2])] at v3;simp -implicitDefEqProofs [pF,v3,t1,t2,t5,eq_false g1,eq_true g2]
 by_cases g3:w=Ba;·rw[hword (by simp[g3])] at v3;simp -implicitDefEqProofs [pF,v3,t1,t2,t3,t5,eq_false g1,eq_false g2,eq_true g3]
 by_cases g4:w=A7;·rw[hword (by simp[g4])] at v3;simp -implicitDefEqProofs [pF,v3,t1,t2,t3,t4,t5,eq_false g1,eq_false g2,eq_false g3,eq_true g4]
 unfold vr;cases hp:Lib.hasPrefix w k9;·rw[hp] at v3;simp -implicitDefEqProofs [pF,v3,t1,t2,t3,t4,t5,eq_false g1,eq_false g2,eq_false g3,eq_false g4]
 rw[hp,show Lib.trimPrefix w k9=w.drop 8 by unfold Lib.trimPrefix;rw[hp];rfl] at v3;have v4:=vk (w.drop 8) (by simp;omega);try simp at v3
 try simp at v4
 generalize (bq (w.drop 8)).getD 0=n at v4;cases gh:c.ha;all_goals
 simp -implicitDefEqProofs [pF,v3,v4,t1,t2,t3,t4,t5,eq_false g1,eq_false g2,eq_false g3,eq_false g4,gh];all_goals (repeat' split)<;>first|rfl|omega|(simp_all;done)|(simp_all;omega)|skip
def Un(ws:List ag)(hl0:ws.length<=1073741825)(hb:∀w∈ws,w.length<=1073741824)(g:Cc):aG (ai (ev LI TT) (aj TT) zG) [(2,.ptr .own (fV fD)),(3,.ptr .own (fV g)),(7,.row .own 1 (ws.map eS)),(8,.int .i64 ws.length),(9,.int .i64 0)]=some (.exit 0,[(2,.ptr .own (fV fD)),(3,.ptr .own (fV ((ws).foldl (λc w=>nS c (ct w)) g))),(7,.row .own 1 (ws.map eS)),(8,.int .i64 ws.length),(9,.int .i64 (ws).length),(10,.bool false)]):=by
 refine FD (f:=ai (ev LI TT) (aj TT) zG) (ws) (λi (g:Cc)=>[(2,.ptr .own (fV fD)),(3,.ptr .own (fV g)),(7,.row .own 1 (ws.map eS)),(8,.int .i64 ws.length),(9,.int .i64 i)]) (λc w=>nS c (ct w)) (λg=>[(2,.ptr .own (fV fD)),(3,.ptr .own (fV g)),(7,.row .own 1 (ws.map eS)),(8,.int .i64 ws.length),(9,.int .i64 (ws).length),(10,.bool false)]) (λ_ _=>True) g trivial (λi b g hi hl _=>?_) (λ_ _ _ _ _=>trivial) (λg _=>?_)
 ·have hw:=aQ i (by first|omega|(simp at hl;omega));obtain⟨_,rfl⟩:=aF.1 hi;have hx:=hb _ (bx hl);have v1:=NV ws[i] hx;have v2:(ct ws[i]).length<=1073741824:=by simp[ct];exact hx
  have v3:=WL g (ct ws[i]) v2;try simp at v1
  try simp at v3
  simp -implicitDefEqProofs [zG,JZ,hl,hw,v1,v3,fD];all_goals (repeat' split)<;>first|rfl|omega|(simp_all;done)|(simp_all;omega)|skip
 ·simp -implicitDefEqProofs [zG,JZ]
def WK(v:ag)(hb:v.length<=1073741824):ev LI TT 219 [.str ⟨v.toArray⟩]=some (.agg (fV (sR v)),[.dead]):=by
 rw[aq (b:=Ea) (rs:=[.c 2 6 true 171]) (n:=1) rfl rfl];have hm:=Cn v;have hn:=Cm v;have u1:=N3 v hb;try simp at u1
 have u2:=Un (iA v) (by omega) (λw hw=>by have:=hm w hw;omega) fD;try simp at u2
 rw[show (iA v).foldl (λc w=>nS c (ct w)) fD=sR v from rfl] at u2;simp[fD] at u2;simp -implicitDefEqProofs [Ea,u1,u2,fD];all_goals (repeat' split)<;>first|rfl|omega|(simp_all;done)|(simp_all;omega)|skip
def WJ(fs:List aJ)(hb:wL aN fs<=1073741824):ev LI TT 165 [.row .af 2 (fs.map aK)]=some (.agg (fV (vt fs)),[.dead]):=by
 rw[aq (b:=D9) (rs:=[.c 2 6 true 171]) (n:=1) rfl rfl];have hfl:=bn (w:=aN) fs;have hg:=vG fs nv;have t3:(⟨#[99,97,99,104,101,45,99,111,110,116,114,111,108]⟩:ByteArray)=⟨nv.toArray⟩:=rfl;have u1:=Ib fs nv (by omega);try simp at u1
 have u2:=WK ((ei fs nv).getD []) (by omega);try simp at u2
 rw[show sR ((ei fs nv).getD [])=vt fs from rfl] at u2;simp -implicitDefEqProofs [D9,u1,u2,t3];all_goals (repeat' split)<;>first|rfl|omega|(simp_all;done)|(simp_all;omega)|skip
end M
set_option maxHeartbeats 4000000
namespace M
open Go
def Iz(q:Rq)(hb:cF q<=1073741824):ev LI TT 48 [.agg (ja .af q)]=some (.bool (nB q),[.dead]):=by
 rw[aq (b:=xx) (rs:=[.t 2]) (n:=1) rfl rfl];have tA:cF q=q.path.length+wL aN q.fields+q.body.length:=rfl;unfold nB;have u1:=IE q.path (by omega);try simp at u1
 have u2:=Oh q.fields (by omega);try simp at u2
 by_cases g1:1<=q.method;rotate_left;·simp -implicitDefEqProofs [xx,u1,u2,eq_false g1]
 by_cases g2:q.method<=4;rotate_left;·simp -implicitDefEqProofs [xx,u1,u2,eq_true g1,eq_false g2]
 cases g3:gV q.path<;>cases g4:jt q.fields<;>rw[g3] at u1<;>rw[g4] at u2;all_goals
 simp -implicitDefEqProofs [xx,u1,u2,eq_true g1,eq_true g2];all_goals (repeat' split)<;>first|rfl|omega|(simp_all;done)|(simp_all;omega)|skip
def NY(q:Rq)(hb:cF q<=1073741824):ev LI TT 133 [.agg (ja .af q)]=some (.bool (nB q),[.dead]):=by
 rw[aq (b:=vS) (rs:=[.t 2]) (n:=1) rfl rfl];have tA:cF q=q.path.length+wL aN q.fields+q.body.length:=rfl;unfold nB;have u1:=Ig q.path (by omega);try simp at u1
 have u2:=NU q.fields (by omega);try simp at u2
 by_cases g1:1<=q.method;rotate_left;·simp -implicitDefEqProofs [vS,u1,u2,eq_false g1]
 by_cases g2:q.method<=4;rotate_left;·simp -implicitDefEqProofs [vS,u1,u2,eq_true g1,eq_false g2]
 cases g3:gV q.path<;>cases g4:jt q.fields<;>rw[g3] at u1<;>rw[g4] at u2;all_goals
 simp -implicitDefEqProofs [vS,u1,u2,eq_true g1,eq_true g2];all_goals (repeat' split)<;>first|rfl|omega|(simp_all;done)|(simp_all;omega)|skip
def sK(q:Rq):Bool:=nB q && decide (q.method=1) && !(vt q.fields).ns
def kN(a b:Rq):Bool:=sK a && sK b && decide (a.path=b.path) && decide (a.fields=b.fields)
def N9(q:Rq)(hb:cF q<=1073741824):ev LI TT 194 [.agg (ja .af q)]=some (.bool (sK q),[.dead]):=by
 rw[aq (b:=EF) (rs:=[.t 2]) (n:=1) rfl rfl];have tA:cF q=q.path.length+wL aN q.fields+q.body.length:=rfl;unfold sK;have u1:=NY q hb;try simp at u1
 have u2:=WJ q.fields (by omega);try simp at u2
 cases g3:nB q<;>rw[g3] at u1;all_goals by_cases g4:q.method=1
 all_goals
 simp -implicitDefEqProofs [EF,u1,u2,g4];all_goals (repeat' split)<;>first|rfl|omega|(simp_all;done)|(simp_all;omega)|skip
def PB(a b:aJ):a=b↔(a.name=b.name/\a.value=b.value):=by cases a;cases b;simp
def VS(ps:List (aJ×aJ))(hb:ps.length<=9223372036854775807):aG (ai (ev LI TT) (aj TT) Cq) [(0,.row .af 2 (ps.map λx=>aK x.1)),(1,.row .af 2 (ps.map λx=>aK x.2)),(12,.int .i64 ps.length),(13,.int .i64 0)]=if aM cy (ps)=true then some (.exit 0,[(0,.row .af 2 (ps.map λx=>aK x.1)),(1,.row .af 2 (ps.map λx=>aK x.2)),(12,.int .i64 ps.length),(13,.int .i64 ps.length),(14,.bool false)]) else some (.ret,[(4,.bool false)]):=by
 refine cZ (f:=ai (ev LI TT) (aj TT) Cq) (ps) (λi=>[(0,.row .af 2 (ps.map λx=>aK x.1)),(1,.row .af 2 (ps.map λx=>aK x.2)),(12,.int .i64 ps.length),(13,.int .i64 i)]) cy _ _ (λi b hi hl=>?_) ?_;·have hw:=aQ i (by first|omega|(simp at hl;omega));obtain⟨_,rfl⟩:=aF.1 hi;simp -implicitDefEqProofs [Cq,Mz,hl,hw,cy,PB];first|done|(split<;>simp_all;done)|(split<;>simp_all<;>(intro h;simp_all))
 ·simp -implicitDefEqProofs [Cq,Mz]
def Oy(a b:List aJ)(hb:a.length<=9223372036854775807):ev LI TT 195 [.row .af 2 (a.map aK),.row .af 2 (b.map aK)]=some (.bool (decide (a=b)),[.dead,.dead]):=by
 rw[aq (b:=Hh) (rs:=[.t 4]) (n:=2) rfl rfl];simp -implicitDefEqProofs [Hh];by_cases h:a.length=b.length;·obtain⟨ps,rfl,rfl⟩:=lK h;have h1:=VS ps (by simpa using hb);have h2:=kO ps;simp at h1;rw[<-h2];cases h3:aM cy ps<;>rw[h3] at h1<;>simp[h1,kJ]
 ·have:¬a=b:=λe=>h (by rw[e]);simp[this];omega
def WE(a:Rq)(b:Rq)(ha:cF a<=1073741824)(hb:cF b<=1073741824):ev LI TT 135 [.agg (ja .af a),.agg (ja .af b)]=some (.bool (kN a b),[.dead,.dead]):=by
 rw[aq (b:=tC) (rs:=[.t 4]) (n:=2) rfl rfl];have tA:cF a=a.path.length+wL aN a.fields+a.body.length:=rfl;have l2:=bn (w:=aN) a.fields;unfold kN;have u1:=N9 a ha;try simp at u1
 have u2:=N9 b hb;try simp at u2
 have u3:=Oy a.fields b.fields (by omega);try simp at u3
 generalize sK a=g1 at u1;generalize sK b=g2 at u2;generalize decide (a.fields=b.fields)=g4 at u3;cases g1;·simp -implicitDefEqProofs [tC,u1]
 cases g2;·simp -implicitDefEqProofs [tC,u1,u2]
 by_cases g3:a.path=b.path;rotate_left;·simp -implicitDefEqProofs [tC,u1,u2,eq_false g3]
 simp -implicitDefEqProofs [tC,u1,u2,u3,eq_true g3];all_goals (repeat' split)<;>first|rfl|omega|(simp_all;done)|(simp_all;omega)|skip
def Ns{α:Type}[DecidableEq α]:∀{a b:List α},(∀x∈a.zip b,¬(decide (x.1≠x.2))=true)->a.length=b.length->a=b
 |[],[],_,_=>rfl
 |x::a,y::b,h,hl=>by have h1:=h (x,y) (by simp);simp at h1;have h2:a=b:=Ns (λz hz=>h z (by simp only[Hv];exact b8 _ hz)) (by simpa using hl);rw[h1,h2]
def Ug{α:Type}{a b:List α}{x:α×α}(hx:x∈a.zip b)(h:x.1≠x.2):a≠b:=by
 rintro rfl
 have:∀{l:List α} {x:α×α},x∈l.zip l->x.1=x.2:=by
  intro l;induction l with
  |nil=>intro x h;simp at h
  |cons y l ih=>
   intro x h;simp only[Hv,bZ] at h;rcases h with rfl|h;·rfl
   ·exact ih h
 exact h (this hx)
def VG(a:List aJ)(b:List aJ)(hb:a.length<=9223372036854775807)(gM:b.length<=9223372036854775807):aG (ai (ev LI TT) (aj TT) xB) [(0,.row .af 2 (a.map aK)),(1,.row .af 2 (b.map aK)),(5,.int .i64 0)]=(cU (λx=>decide (x.1≠x.2)) 0 (a.zip b)).elim (some (.exit 0,[(0,.row .af 2 (a.map aK)),(1,.row .af 2 (b.map aK)),(5,.int .i64 (a.zip b).length),(15,.bool false)])) λx=>some (.ret,(λ(i:Nat) b=>[(4,.bool false)]) x.1 x.2):=by
 refine rI (f:=ai (ev LI TT) (aj TT) xB) (a.zip b) (λi=>[(0,.row .af 2 (a.map aK)),(1,.row .af 2 (b.map aK)),(5,.int .i64 i)]) (λx=>decide (x.1≠x.2)) (λ(i:Nat) b=>[(4,.bool false)]) _ (λi b hi hl=>?_) ?_
 ·have hw:=aQ i (by first|omega|(simp at hl;omega));obtain⟨_,rfl⟩:=aF.1 hi;have ha:i<a.length:=by simp at hl;omega
  have hb':i<b.length:=by simp at hl;omega
  simp -implicitDefEqProofs [xB,Gy,hl,hw,ha,hb',PB]
 ·have hz:(a.zip b).length=min a.length b.length:=by simp
  rw[hz];by_cases hh:a.length<=b.length;·rw[lF hh];simp -implicitDefEqProofs [xB,Gy]
  have h1:b.length<=a.length:=by omega
  have h2:(b.length:Int)<a.length:=by omega
  have h3:b.length<a.length:=by omega
  rw[MY h1];simp -implicitDefEqProofs [xB,Gy,h2,h3]
def Yx(a:List aJ)(b:List aJ)(hb:a.length<=9223372036854775807)(gM:b.length<=9223372036854775807):ev LI TT 112 [.row .af 2 (a.map aK),.row .af 2 (b.map aK)]=some (.bool (decide (a=b)),[.dead,.dead]):=by
 rw[aq (b:=xC) (rs:=[.t 4]) (n:=2) rfl rfl];have h:=VG a b hb gM;cases g:cU (λx:aJ×aJ=>decide (x.1≠x.2)) 0 (a.zip b) with
 |some x=>obtain⟨i,x⟩:=x;obtain⟨_,h1,h2⟩:=qR g;have h3:¬a=b:=Ug (lE h1) (by simpa using h2);rw[g] at h;simp only[Option.elim] at h;simp -implicitDefEqProofs [xC,h,h3]
 |none=>
 have h1:=Dw.1 g;rw[g] at h;simp only[Option.elim] at h;try simp at h
 by_cases hl:a.length=b.length
 ·have h2:=Ns h1 hl;subst h2;try simp at h
  simp -implicitDefEqProofs [xC,h]
 have h3:¬a=b:=λe=>hl (by rw[e]);have h4:¬(a.length:Int)=b.length:=by omega
 simp -implicitDefEqProofs [xC,h,h3,h4];all_goals (repeat' split)<;>first|rfl|omega|(simp_all;done)|(simp_all;omega)|skip
def X9(a:Rq)(b:Rq)(ha:cF a<=1073741824)(hb:cF b<=1073741824):ev LI TT 50 [.agg (ja .af a),.agg (ja .af b)]=some (.bool (kN a b),[.dead,.dead]):=by
 rw[aq (b:=oy) (rs:=[.t 4]) (n:=2) rfl rfl];have tA:cF a=a.path.length+wL aN a.fields+a.body.length:=rfl;have zv:cF b=b.path.length+wL aN b.fields+b.body.length:=rfl;have l2:=bn (w:=aN) a.fields;have l3:=bn (w:=aN) b.fields;unfold kN sK;have u1:=Iz a ha;try simp at u1
 have u2:=Iz b hb;try simp at u2
 have u3:=Yx a.fields b.fields (by omega) (by omega);try simp at u3
 have u4:=Yd a.fields (by omega);try simp at u4
 generalize nB a=g1 at u1;generalize nB b=g2 at u2;cases g1;·simp -implicitDefEqProofs [oy,u1]
 cases g2;·simp -implicitDefEqProofs [oy,u1,u2]
 by_cases g4:a.method=1;rotate_left;·simp -implicitDefEqProofs [oy,u1,u2,g4]
 rw[g4] at u1;by_cases g5:b.method=1;rotate_left;·simp -implicitDefEqProofs [oy,u1,u2,g4,g5]
 rw[g5] at u2;by_cases g3:a.path=b.path;rotate_left;·simp -implicitDefEqProofs [oy,u1,u2,g4,g5,eq_false g3]
 rw[<-g3] at u2;by_cases g6:a.fields=b.fields;rotate_left;·rw[CG g6] at u3;simp -implicitDefEqProofs [oy,u1,u2,u3,g4,g5,<-g3,eq_false g6]
 rw[CH g6] at u3;generalize hns:(vt a.fields).ns=g7 at u4;have Qx:=hns;rw[g6] at Qx;cases g7;all_goals
 simp -implicitDefEqProofs [oy,u1,u2,u3,u4,g4,g5,<-g3,eq_true g6,hns,Qx];all_goals (repeat' split)<;>first|rfl|omega|(simp_all;done)|(simp_all;omega)|skip
end M
set_option maxHeartbeats 4000000
namespace M
open Go
def oU(l:List Fl)(x:Fl×Nat):Bool:=nB x.1.q && decide (1<=(x.1.who.length:Int)/\(x.1.who.length:Int)<=5) && (!x.1.nX||cO x.1.old) && aM (λy=> !kN y.q x.1.q) (l.take x.2)
def yU(l:List Fl):Bool:=decide ((l.length:Int)<=5) && aM (oU l) l.zipIdx
def mJ(c:Ca):Bool:=lz c.aI && decide (0<=c.now/\c.now<=1000000) && decide ((c.seen.length:Int)<=1500) && decide ((c.sent.length:Int)<=1500) && yU c.bO
def G8{l:List Fl}{x:Fl}(h:x∈l):cF x.q<=wL cz l/\aZ x.old<=wL cz l:=by have h1:=fu (w:=cz) h;have h2:cz x=cF x.q+wL wO x.who+aZ x.old:=rfl;omega
def Ck(c:Ca):wL cz c.bO<=dU c:=by unfold dU;omega
def Vd(c:Ca)(n:Nat)(x:Fl)(hn:n<=c.bO.length)(hx:cF x.q<=1073741824)(hc:dU c<=1073741824):aG (ai (ev LI TT) (aj TT) Bq) [(1,.ptr .own (fo .af c)),(3,.int .i64 n),(4,.ptr .own (bW .af x)),(5,.int .i64 0)]=if aM (λy=> !kN y.q x.q) (c.bO.take n)=true then some (.exit 2,[(1,.ptr .own (fo .af c)),(3,.int .i64 n),(4,.ptr .own (bW .af x)),(5,.int .i64 (c.bO.take n).length),(69,.bool false)]) else some (.ret,[(2,.bool false)]):=by
 refine cZ (f:=ai (ev LI TT) (aj TT) Bq) (c.bO.take n) (λi=>[(1,.ptr .own (fo .af c)),(3,.int .i64 n),(4,.ptr .own (bW .af x)),(5,.int .i64 i)]) (λy=> !kN y.q x.q) _ _ (λi b hi hl=>?_) ?_
 ·have hw:=aQ i (by have:=bn (w:=cz) c.bO;have:=Ck c;simp at hl;omega);obtain⟨_,rfl⟩:=aF.1 hi;have h1:i<n:=by simp at hl;omega
  have h2:i<c.bO.length:=by omega
  have h3:=Ck c;have h4:=G8 (bx h2);have u1:=X9 (c.bO[i]).q x.q (by omega) hx;cases hal:kN (c.bO[i]).q x.q<;>rw[hal] at u1<;>simp at u1;all_goals
  simp -implicitDefEqProofs [Bq,LB,hl,hw,h1,h2,u1,hal];all_goals (repeat' split)<;>first|rfl|omega|(simp_all;done)|(simp_all;omega)|skip
 ·have hmin:min n c.bO.length=n:=by omega
  simp -implicitDefEqProofs [Bq,LB,hmin]
def Ve(c:Ca)(hc:dU c<=100000000):aG (ai (ev LI TT) (aj TT) ue) [(1,.ptr .own (fo .af c)),(3,.int .i64 0)]=if aM (oU c.bO) (c.bO.zipIdx)=true then some (.exit 0,[(1,.ptr .own (fo .af c)),(3,.int .i64 (c.bO.zipIdx).length),(38,.bool false)]) else some (.ret,[(2,.bool false)]):=by
 refine cZ (f:=ai (ev LI TT) (aj TT) ue) (c.bO.zipIdx) (λi=>[(1,.ptr .own (fo .af c)),(3,.int .i64 i)]) (oU c.bO) _ _ (λi b hi hl=>?_) ?_
 ·have hw:=aQ i (by have:=bn (w:=cz) c.bO;have:=Ck c;simp at hl;omega);obtain⟨_,rfl⟩:=aF.1 hi;simp only[ym] at hl;have hz:c.bO.zipIdx[i]'(by simpa using hl)=(c.bO[i],i):=by simp
  have h3:=Ck c;have h4:=G8 (bx hl);have hmin:min i c.bO.length=i:=by omega
  rw[hz];unfold oU;have u1:=Iz (c.bO[i]).q (by omega);try simp at u1
  have u2:=C5 (c.bO[i]).old (by omega);try simp at u2
  have u3:=Vd c i c.bO[i] (by omega) (by omega) (by omega);try simp at u3
  generalize nB (c.bO[i]).q=b1 at u1;cases b1;·simp -implicitDefEqProofs [ue,xp,hl,hw,u1]
  by_cases g2:1<=((c.bO[i]).who.length:Int)/\((c.bO[i]).who.length:Int)<=5;rotate_left
  ·simp only[ue,CG g2,Bool.and_false,M5];by_cases mO:1<=((c.bO[i]).who.length:Int);·have s6:¬((c.bO[i]).who.length:Int)<=5:=λh=>g2 ⟨mO,h⟩;simp -implicitDefEqProofs [xp,hl,hw,u1,mO,s6]
   ·simp -implicitDefEqProofs [xp,hl,hw,u1,mO]
  rw[CH g2];obtain⟨mO,s6⟩:=g2;generalize cO (c.bO[i]).old=b2 at u2;cases zh:(c.bO[i]).nX;all_goals rw[zh] at u3
  all_goals cases b2
  all_goals cases g5:aM (λy:Fl=> !kN y.q (c.bO[i]).q) (c.bO.take i)<;>rw[g5] at u3
  all_goals try simp at u3
  all_goals
  simp -implicitDefEqProofs [ue,xp,hl,hw,u1,u2,u3,hmin,mO,s6,zh,g5];all_goals (repeat' split)<;>first|rfl|omega|(simp_all;done)|(simp_all;omega)|skip
 ·simp -implicitDefEqProofs [ue,xp]
def Yc(c:Ca)(hc:dU c<=100000000):ev LI TT 16 [.agg (fo .af c)]=some (.bool (mJ c),[.dead]):=by
 rw[aq (b:=oz) (rs:=[.t 2]) (n:=1) rfl rfl];have hsh:cm c.aI<=dU c:=by unfold dU;omega
 unfold mJ yU;have u1:=Yq c.aI (by omega);try simp at u1
 have u2:=Ve c hc;try simp at u2
 generalize lz c.aI=b1 at u1;cases b1;·simp -implicitDefEqProofs [oz,u1]
 by_cases g1:0<=c.now;rotate_left;·simp -implicitDefEqProofs [oz,u1,g1]
 by_cases g2:c.now<=1000000;rotate_left;·simp -implicitDefEqProofs [oz,u1,g1,g2]
 by_cases g3:(c.bO.length:Int)<=5;rotate_left
 ·have jc:5<(c.bO.length:Int):=by omega
  simp -implicitDefEqProofs [oz,u1,g1,g2,g3,jc]
 by_cases g4:(c.seen.length:Int)<=1500;rotate_left
 ·have lV:1500<(c.seen.length:Int):=by omega
  simp -implicitDefEqProofs [oz,u1,g1,g2,g3,g4,lV,(by omega:¬5<(c.bO.length:Int))]
 by_cases g5:(c.sent.length:Int)<=1500;rotate_left
 ·have qU:1500<(c.sent.length:Int):=by omega
  simp -implicitDefEqProofs [oz,u1,g1,g2,g3,g4,g5,qU,(by omega:¬5<(c.bO.length:Int)),(by omega:¬1500<(c.seen.length:Int))]
 have jc:¬5<(c.bO.length:Int):=by omega
 have lV:¬1500<(c.seen.length:Int):=by omega
 have qU:¬1500<(c.sent.length:Int):=by omega
 cases g6:aM (oU c.bO) c.bO.zipIdx<;>rw[g6] at u2;all_goals try simp at u2
 all_goals
 simp -implicitDefEqProofs [oz,u1,u2,g1,g2,g3,g4,g5,jc,lV,qU,g6];all_goals (repeat' split)<;>first|rfl|omega|(simp_all;done)|(simp_all;omega)|skip
def UD(l:List Fl)(n:Nat)(x:Fl)(hn:n<=l.length)(hx:cF x.q<=1073741824)(hc:wL cz l<=100000000):aG (ai (ev LI TT) (aj TT) z8) [(0,.row .af 13 (l.map (bW .af))),(4,.ptr .own (bW .af x)),(7,.row .af 13 (l.map (bW .af))),(8,.int .i64 l.length),(9,.int .i64 n),(35,.row .af 13 (l.map (bW .af))),(36,.int .i64 n),(37,.row .af 13 ((l.take n).map (bW .af))),(38,.int .i64 n),(39,.int .i64 0)]=if aM (λy=> !kN y.q x.q) (l.take n)=true then some (.exit 2,[(0,.row .af 13 (l.map (bW .af))),(4,.ptr .own (bW .af x)),(7,.row .af 13 (l.map (bW .af))),(8,.int .i64 l.length),(9,.int .i64 n),(35,.row .af 13 (l.map (bW .af))),(36,.int .i64 n),(37,.row .af 13 ((l.take n).map (bW .af))),(38,.int .i64 n),(39,.int .i64 (l.take n).length),(40,.bool false)]) else some (.ret,[(2,.bool false)]):=by
 refine cZ (f:=ai (ev LI TT) (aj TT) z8) (l.take n) (λi=>[(0,.row .af 13 (l.map (bW .af))),(4,.ptr .own (bW .af x)),(7,.row .af 13 (l.map (bW .af))),(8,.int .i64 l.length),(9,.int .i64 n),(35,.row .af 13 (l.map (bW .af))),(36,.int .i64 n),(37,.row .af 13 ((l.take n).map (bW .af))),(38,.int .i64 n),(39,.int .i64 i)]) (λy=> !kN y.q x.q) _ _ (λi b hi hl=>?_) ?_
 ·have hw:=aQ i (by have:=bn (w:=cz) l;simp at hl;omega);obtain⟨_,rfl⟩:=aF.1 hi;have h1:i<n:=by simp at hl;omega
  have h2:i<l.length:=by omega
  have h4:=G8 (bx h2);have u1:=WE (l[i]).q x.q (by omega) hx;cases hal:kN (l[i]).q x.q<;>rw[hal] at u1<;>simp at u1;all_goals
  simp -implicitDefEqProofs [z8,Ke,hl,hw,h1,h2,u1,hal];all_goals (repeat' split)<;>first|rfl|omega|(simp_all;done)|(simp_all;omega)|skip
 ·have hmin:min n l.length=n:=by omega
  simp -implicitDefEqProofs [z8,Ke,hmin]
def UE(l:List Fl)(hc:wL cz l<=100000000):aG (ai (ev LI TT) (aj TT) tK) [(0,.row .af 13 (l.map (bW .af))),(7,.row .af 13 (l.map (bW .af))),(8,.int .i64 l.length),(9,.int .i64 0)]=if aM (oU l) (l.zipIdx)=true then some (.exit 0,[(0,.row .af 13 (l.map (bW .af))),(7,.row .af 13 (l.map (bW .af))),(8,.int .i64 l.length),(9,.int .i64 (l.zipIdx).length),(10,.bool false)]) else some (.ret,[(2,.bool false)]):=by
 refine cZ (f:=ai (ev LI TT) (aj TT) tK) (l.zipIdx) (λi=>[(0,.row .af 13 (l.map (bW .af))),(7,.row .af 13 (l.map (bW .af))),(8,.int .i64 l.length),(9,.int .i64 i)]) (oU l) _ _ (λi b hi hl=>?_) ?_
 ·have hw:=aQ i (by have:=bn (w:=cz) l;simp at hl;omega);obtain⟨_,rfl⟩:=aF.1 hi;simp only[ym] at hl;have hz:l.zipIdx[i]'(by simpa using hl)=(l[i],i):=by simp
  have h4:=G8 (bx hl);have hmin:min i l.length=i:=by omega
  have hle:(i:Int)<=l.length:=by omega
  have hle2:i<=l.length:=by omega
  rw[hz];unfold oU;have u1:=NY (l[i]).q (by omega);try simp at u1
  have u2:=C3 (l[i]).old (by omega);try simp at u2
  have u3:=UD l i l[i] (by omega) (by omega) (by omega);try simp at u3
  generalize nB (l[i]).q=b1 at u1;cases b1;·simp -implicitDefEqProofs [tK,vX,hl,hw,u1]
  by_cases g2:1<=((l[i]).who.length:Int)/\((l[i]).who.length:Int)<=5;rotate_left
  ·simp only[tK,CG g2,Bool.and_false,M5];by_cases mO:1<=((l[i]).who.length:Int);·have s6:¬((l[i]).who.length:Int)<=5:=λh=>g2 ⟨mO,h⟩;simp -implicitDefEqProofs [vX,hl,hw,u1,mO,s6]
   ·simp -implicitDefEqProofs [vX,hl,hw,u1,mO]
  rw[CH g2];obtain⟨mO,s6⟩:=g2;generalize cO (l[i]).old=b2 at u2;cases zh:(l[i]).nX;all_goals rw[zh] at u3
  all_goals cases b2
  all_goals cases g5:aM (λy:Fl=> !kN y.q (l[i]).q) (l.take i)<;>rw[g5] at u3
  all_goals try simp at u3
  all_goals try simp only[hmin] at u3
  all_goals
  simp -implicitDefEqProofs [tK,vX,hl,hw,u1,u2,u3,hmin,hle,hle2,mO,s6,zh,g5];all_goals (repeat' split)<;>first|rfl|omega|(simp_all;done)|(simp_all;omega)|skip
 ·simp -implicitDefEqProofs [tK,vX]
def Xc(l:List Fl)(hc:wL cz l<=100000000):ev LI TT 72 [.row .af 13 (l.map (bW .af))]=some (.bool (yU l),[.dead]):=by
 rw[aq (b:=ED) (rs:=[.t 2]) (n:=1) rfl rfl];have u1:=UE l hc;try simp at u1
 unfold yU;cases g6:aM (oU l) l.zipIdx<;>rw[g6] at u1;all_goals try simp at u1
 all_goals
 simp -implicitDefEqProofs [ED,u1];all_goals (repeat' split)<;>first|rfl|omega|(simp_all;done)|(simp_all;omega)|skip
def WI(c:Ca)(hc:dU c<=100000000):ev LI TT 26 [.agg (fo .af c)]=some (.bool (mJ c),[.dead]):=by
 rw[aq (b:=pE) (rs:=[.t 2]) (n:=1) rfl rfl];have hsh:cm c.aI<=dU c:=by unfold dU;omega
 have hfl:=Ck c;unfold mJ;have u1:=WY c.aI (by omega);try simp at u1
 have u2:=Xc c.bO (by omega);try simp at u2
 by_cases g1:0<=c.now;rotate_left;·simp -implicitDefEqProofs [pE,u1,g1]
 by_cases g2:c.now<=1000000;rotate_left;·simp -implicitDefEqProofs [pE,u1,g1,g2]
 by_cases g4:(c.seen.length:Int)<=1500;rotate_left;·simp -implicitDefEqProofs [pE,u1,g1,g2,g4]
 by_cases g5:(c.sent.length:Int)<=1500;rotate_left;·simp -implicitDefEqProofs [pE,u1,g1,g2,g4,g5]
 generalize yU c.bO=b2 at u2;cases b2;·simp -implicitDefEqProofs [pE,u1,u2,g1,g2,g4,g5]
 generalize lz c.aI=b1 at u1;cases b1;all_goals
 simp -implicitDefEqProofs [pE,u1,u2,g1,g2,g4,g5];all_goals (repeat' split)<;>first|rfl|omega|(simp_all;done)|(simp_all;omega)|skip
end M
set_option maxHeartbeats 4000000
namespace M
open Go
def Oz(c:Ca):wL bP c.aI.av<=dU c:=by unfold dU cm;omega
def ae1{c:Ca}{x:Kp}(hx:x∈c.aI.av):aZ x.obj<=dU c:=by have h1:=xU hx;have h5:=Oz c;omega
end M
set_option maxHeartbeats 4000000
namespace M
open Go
def Ys(d:bg)(h1:d.cells.length<=1073741824)(h2:d.pending.length<=1073741824):ev LI TT 60 [.agg (bT .af d)]=some (.agg (bT .own d),[.dead]):=by rw[aq (b:=Gr) (rs:=[.c 2 2 true 39]) (n:=1) rfl rfl];simp -implicitDefEqProofs [Gr,L6,SG,rowAt,(by omega:d.cells.length*16<=140737488355328),(by omega:d.pending.length*24<=140737488355328),Gs,LW,Gt,LX,LY,LZ];all_goals (repeat' split)<;>first|rfl|omega|(simp_all;done)|(simp_all;omega)|skip
def Xa(d:bg)(h1:d.cells.length<=1073741824)(h2:d.pending.length<=1073741824):ev LI TT 81 [.agg (bT .af d)]=some (.agg (bT .own d),[.dead]):=by
 rw[aq (b:=EA) (rs:=[.c 2 2 true 39]) (n:=1) rfl rfl];have u1:=Q2 d.cells h1;try simp at u1
 have u2:=aeW d.pending h2;try simp at u2
 simp -implicitDefEqProofs [EA,u1,u2];all_goals (repeat' split)<;>first|rfl|omega|(simp_all;done)|(simp_all;omega)|skip
def CW(ws:List Wr):Prop:=∀w∈ws,0<=w.at_/\w.at_<=19
def ld{d:bg}(h:dc d=true):CW d.pending/\d.cells.length=20/\d.pending.length<=16:=by simp only[dc,aA,bz] at h;refine⟨λw hw=>?_,by omega,by omega⟩;simpa [rR] using iX.1 h.1.1 w hw
def dX(d:bg):bg:=⟨nh (gy [] true) d.cells d.pending,[]⟩
def VD(d:bg)(keep:List Bool)(all:Bool)(hb:d.pending.length<=9223372036854775807)(ho:CW d.pending)(hk:keep.length<=9223372036854775807)(cs:List ag)(hinv:cs.length=20):aG (ai (ev LI TT) (aj TT) uu) [(1,.row .af 1 (keep.map eB)),(2,.bool all),(3,.ptr .own (bT .af d)),(6,.ptr .own [.row .own 1 [],.row .own 2 []]),(7,.ptr .own [.row .own 1 ((cs).map eS),.row .own 2 []]),(8,.int .i64 0)]=some (.exit 0,[(1,.row .af 1 (keep.map eB)),(2,.bool all),(3,.ptr .own (bT .af d)),(6,.ptr .own [.row .own 1 [],.row .own 2 []]),(7,.ptr .own [.row .own 1 (((foldI (gR (gy keep all)) 0 (d.pending) cs)).map eS),.row .own 2 []]),(8,.int .i64 (d.pending).length),(18,.bool false)]):=by
 refine iu (f:=ai (ev LI TT) (aj TT) uu) (d.pending) (λi (cs:List ag)=>[(1,.row .af 1 (keep.map eB)),(2,.bool all),(3,.ptr .own (bT .af d)),(6,.ptr .own [.row .own 1 [],.row .own 2 []]),(7,.ptr .own [.row .own 1 ((cs).map eS),.row .own 2 []]),(8,.int .i64 i)]) (gR (gy keep all)) (λcs=>[(1,.row .af 1 (keep.map eB)),(2,.bool all),(3,.ptr .own (bT .af d)),(6,.ptr .own [.row .own 1 [],.row .own 2 []]),(7,.ptr .own [.row .own 1 ((cs).map eS),.row .own 2 []]),(8,.int .i64 (d.pending).length),(18,.bool false)]) (λi (cs:List ag)=>cs.length=20) cs hinv (λi b cs hi hl hinv=>?_) (λi b cs hi hinv=>?_) (λcs hinv=>?_)
 ·have hw:=aQ i (by first|omega|(simp at hl;omega));obtain⟨_,rfl⟩:=aF.1 hi;have h1:=ho _ (bx hl);have h2:(d.pending[i]).at_.toNat<cs.length:=by omega
  cases all
  ·by_cases h4:i<keep.length;·cases h5:keep[i]<;>simp -implicitDefEqProofs [uu,BQ,hl,hw,h1,h2,gR,gy,h4,h5]
   ·simp -implicitDefEqProofs [uu,BQ,hl,hw,h1,h2,gR,gy,h4]
  simp -implicitDefEqProofs [uu,BQ,hl,hw,h1,h2,gR,gy]
 ·rw[Fw];exact hinv
 ·simp -implicitDefEqProofs [uu,BQ]
def Ot(d:bg)(keep:List Bool)(all:Bool)(h:dc d=true)(hk:keep.length<=9223372036854775807):ev LI TT 63 [.agg (bT .af d),.row .af 1 (keep.map eB),.bool all]=some (.agg (bT .own (⟨nh (gy keep all) d.cells d.pending,[]⟩)),[.dead,.dead,.dead]):=by
 rw[aq (b:=Gu) (rs:=[.c 6 2 true 39]) (n:=3) rfl rfl];obtain⟨h0,h1,h1'⟩:=ld h;have h2:=VD d keep all (by omega) h0 hk d.cells h1;try simp at h2
 simp -implicitDefEqProofs [Gu,h1,h2,nh,L6,rowAt];all_goals (repeat' split)<;>first|rfl|omega|(simp_all;done)|(simp_all;omega)|skip
def Yi(d:bg)(h:dc d=true):ev LI TT 18 [.agg (bT .af d)]=some (.agg (bT .own (dX d)),[.dead]):=by
 rw[aq (b:=Gd) (rs:=[.c 2 2 true 39]) (n:=1) rfl rfl];obtain⟨h0,h1,h1'⟩:=ld h;have h2:=yF d (by omega);have h3:=Ot d [] true h (by simp);rw[h] at h2;try simp at h2
 try simp at h3
 simp -implicitDefEqProofs [Gd,h2,h3,dX];all_goals (repeat' split)<;>first|rfl|omega|(simp_all;done)|(simp_all;omega)|skip
def Up(ws:List Wr)(hb:ws.length<=9223372036854775807)(ho:CW ws)(cs:List ag)(hinv:cs.length=20):aG (ai (ev LI TT) (aj TT) zI) [(0,.aC 100000 [] 0 0),(4,.aC 100000 [] 0 0),(5,.aC 100000 [] 0 0),(6,.aC 100000 [] 0 1),(7,.ref 100000 [(0,1)]),(8,.int .i64 ws.length),(9,.int .i64 0),(100000,.ptr .own [.row .own 1 ((cs).map eS),.row .own 2 (ws.map eW)])]=some (.exit 0,[(0,.aC 100000 [] 0 0),(4,.aC 100000 [] 0 0),(5,.aC 100000 [] 0 0),(6,.aC 100000 [] 0 1),(7,.ref 100000 [(0,1)]),(8,.int .i64 ws.length),(9,.int .i64 (ws).length),(10,.bool false),(100000,.ptr .own [.row .own 1 (((foldI (gR (gy [] true)) 0 (ws) cs)).map eS),.row .own 2 (ws.map eW)])]):=by
 refine iu (f:=ai (ev LI TT) (aj TT) zI) (ws) (λi (cs:List ag)=>[(0,.aC 100000 [] 0 0),(4,.aC 100000 [] 0 0),(5,.aC 100000 [] 0 0),(6,.aC 100000 [] 0 1),(7,.ref 100000 [(0,1)]),(8,.int .i64 ws.length),(9,.int .i64 i),(100000,.ptr .own [.row .own 1 ((cs).map eS),.row .own 2 (ws.map eW)])]) (gR (gy [] true)) (λcs=>[(0,.aC 100000 [] 0 0),(4,.aC 100000 [] 0 0),(5,.aC 100000 [] 0 0),(6,.aC 100000 [] 0 1),(7,.ref 100000 [(0,1)]),(8,.int .i64 ws.length),(9,.int .i64 (ws).length),(10,.bool false),(100000,.ptr .own [.row .own 1 ((cs).map eS),.row .own 2 (ws.map eW)])]) (λi (cs:List ag)=>cs.length=20) cs hinv (λi b cs hi hl hinv=>?_) (λi b cs hi hinv=>?_) (λcs hinv=>?_)
 ·have hw:=aQ i (by first|omega|(simp at hl;omega));obtain⟨_,rfl⟩:=aF.1 hi;have h1:=ho _ (bx hl);have h2:(ws[i]).at_.toNat<cs.length:=by omega
  simp -implicitDefEqProofs [zI,J1,hl,hw,h1,h2,gR,gy]
 ·rw[Fw];exact hinv
 ·simp -implicitDefEqProofs [zI,J1]
def WN(d:bg)(h:dc d=true):ev LI TT 82 [.ptr .own (bT .own d)]=some (.au [],[.ptr .own (bT .own (dX d))]):=by
 rw[aq (b:=Ee) (rs:=[]) (n:=1) rfl rfl];obtain⟨h0,h1,h1'⟩:=ld h;have h2:=Up d.pending (by omega) h0 d.cells h1;try simp at h2
 simp -implicitDefEqProofs [Ee,h1,h2,nh,dX];all_goals (repeat' split)<;>first|rfl|omega|(simp_all;done)|(simp_all;omega)|skip
def PF{d:bg}(h:dc d=true):dc (dX d)=true:=by obtain⟨h0,h1,h1'⟩:=ld h;have:=Q7 (gy [] true) d.cells d.pending;unfold dc dX;simp only[this,h1];rfl
def w8(a:Int):Int:=if a=19 then 5 else a+1
def Yt(a:Int)(h:5<=a/\a<=19):ev LI TT 62 [.int .i64 a]=some (.int .i64 (w8 a),[.dead]):=by rw[aq (b:=Gw) (rs:=[.t 2]) (n:=1) rfl rfl];unfold w8;have hw:IntKind.i64.wrap (a+1)=a+1:=bK (by omega) (by omega);simp -implicitDefEqProofs [Gw,hw];all_goals (repeat' split)<;>first|rfl|omega|(simp_all;done)|(simp_all;omega)|skip
def W9(a:Int)(h:5<=a/\a<=19):ev LI TT 79 [.int .i64 a]=some (.int .i64 (w8 a),[.dead]):=by
 rw[aq (b:=z7) (rs:=[.t 2]) (n:=1) rfl rfl];unfold w8;have hw:IntKind.i64.wrap (a+1)=a+1:=bK (by omega) (by omega);by_cases g:a=19;·subst g;have h20:IntKind.i64.wrap 20=20:=bK (by omega) (by omega);simp -implicitDefEqProofs [z7,h20]
 have g2:¬a+1=20:=by omega
 simp -implicitDefEqProofs [z7,hw,g,g2];all_goals (repeat' split)<;>first|rfl|omega|(simp_all;done)|(simp_all;omega)|skip
def jJ(a b:Ob):Bool:=decide (a.path=b.path) && decide (a.names=b.names) && decide (a.values=b.values)
def Yw(a:Ob)(b:Ob)(ha:aZ a<=1073741824)(hb:aZ b<=1073741824):ev LI TT 61 [.agg (bA .af a),.agg (bA .af b)]=some (.bool (jJ a b),[.dead,.dead]):=by
 rw[aq (b:=xA) (rs:=[.t 4]) (n:=2) rfl rfl];have hw:aZ a=a.path.length+wL wS a.names+wL wS a.values+bC a.resp:=rfl;have fF:aZ b=b.path.length+wL wS b.names+wL wS b.values+bC b.resp:=rfl;have l1:=bn (w:=wS) a.names;have l2:=bn (w:=wS) a.values;have l3:=bn (w:=wS) b.names;have l4:=bn (w:=wS) b.values;unfold jJ;have u1:=IF a.names b.names (by omega) (by omega);try simp at u1
 have u2:=IF a.values b.values (by omega) (by omega);try simp at u2
 by_cases g:a.path=b.path;rotate_left;·simp -implicitDefEqProofs [xA,eq_false g]
 by_cases g2:a.names=b.names;rotate_left;·rw[CG g2] at u1;simp -implicitDefEqProofs [xA,eq_true g,u1,eq_false g2]
 rw[CH g2] at u1;simp -implicitDefEqProofs [xA,u1,u2,eq_true g,eq_true g2];all_goals (repeat' split)<;>first|rfl|omega|(simp_all;done)|(simp_all;omega)|skip
def N8(a:Ob)(b:Ob)(ha:aZ a<=1073741824)(hb:aZ b<=1073741824):ev LI TT 78 [.agg (bA .af a),.agg (bA .af b)]=some (.bool (jJ a b),[.dead,.dead]):=by
 rw[aq (b:=vY) (rs:=[.t 4]) (n:=2) rfl rfl];have hw:aZ a=a.path.length+wL wS a.names+wL wS a.values+bC a.resp:=rfl;have fF:aZ b=b.path.length+wL wS b.names+wL wS b.values+bC b.resp:=rfl;have l1:=bn (w:=wS) a.names;have l2:=bn (w:=wS) a.values;unfold jJ;have u1:=II a.names b.names (by omega);try simp at u1
 have u2:=II a.values b.values (by omega);try simp at u2
 by_cases g:a.path=b.path;rotate_left;·simp -implicitDefEqProofs [vY,eq_false g]
 by_cases g2:a.names=b.names;rotate_left;·rw[CG g2] at u1;simp -implicitDefEqProofs [vY,eq_true g,u1,eq_false g2]
 rw[CH g2] at u1;simp -implicitDefEqProofs [vY,u1,u2,eq_true g,eq_true g2];all_goals (repeat' split)<;>first|rfl|omega|(simp_all;done)|(simp_all;omega)|skip
end M
namespace M
open Go
def iR(g:Nat×Nat)(b:UInt8):Nat×Nat:=((g.1+b.toNat)%65521,(g.2+(g.1+b.toNat)%65521)%65521)
def GS(g:Nat×Nat)(b:UInt8):(iR g b).1<65521/\(iR g b).2<65521:=⟨sA _ (by decide),sA _ (by decide)⟩
def SZ(g:Nat×Nat)(b:UInt8)(h:g.1<65521/\g.2<65521):(IntKind.i64.wrap (↑g.1+IntKind.i64.wrap ↑b.toNat)).tmod 65521=↑(iR g b).1/\
  (IntKind.i64.wrap (↑g.2+(IntKind.i64.wrap (↑g.1+IntKind.i64.wrap ↑b.toNat)).tmod 65521)).tmod 65521=↑(iR g b).2:=by
 have hb:=b.toNat_lt;have e1:IntKind.i64.wrap (↑g.1+IntKind.i64.wrap ↑b.toNat)=((g.1+b.toNat:Nat):Int):=by rw[bK (n:=(b.toNat:Int)) (by omega) (by omega),bK (by omega) (by omega)];omega
 have e2:(((g.1+b.toNat:Nat):Int)).tmod 65521=↑(iR g b).1:=by rw[HB (by omega)];unfold iR;omega
 have h1:=(GS g b).1;have e3:IntKind.i64.wrap (↑g.2+(↑(iR g b).1:Int))=((g.2+(iR g b).1:Nat):Int):=by rw[bK (by omega) (by omega)];omega
 rw[e1,e2,e3];refine⟨rfl,?_⟩;rw[HB (by omega)];unfold iR;omega
def iQ(s:ag):Nat×Nat:=foldI (λ_ g b=>iR g b) 0 s (1,0)
def PI{γ β:Type}{go:Nat->γ->β->γ}{I:γ->Prop}(h:∀i g b,I g->I (go i g b)):∀(l:List β) (i:Nat) (g:γ),I g->I (foldI go i l g)
 |[],_,_,hg=>hg
 |b::l,i,g,hg=>PI h l (i+1) _ (h i g b hg)
def Mc(s:ag):(iQ s).1<65521/\(iQ s).2<65521:=PI (I:=λg=>g.1<65521/\g.2<65521) (λ_ g b _=>GS g b) s 0 _ (by simp)
def nG(s:ag):Nat:=65521*(iQ s).2+(iQ s).1
def GR(s:ag):nG s<10^10:=by have:=Mc s;unfold nG;omega
def Vw(s:ag)(hb:s.length<=9223372036854775807)(g:Nat×Nat)(hinv:g.1<65521/\g.2<65521):aG (ai (ev LI TT) (aj TT) BI) [(0,.str ⟨s.toArray⟩),(3,.int .i64 (g).1),(4,.int .i64 (g).2),(5,.int .i64 0)]=some (.exit 0,[(0,.str ⟨s.toArray⟩),(3,.int .i64 ((foldI (λ_ g b=>iR g b) 0 (s) g)).1),(4,.int .i64 ((foldI (λ_ g b=>iR g b) 0 (s) g)).2),(5,.int .i64 (s).length),(9,.bool false)]):=by
 refine iu (f:=ai (ev LI TT) (aj TT) BI) (s) (λi (g:Nat×Nat)=>[(0,.str ⟨s.toArray⟩),(3,.int .i64 (g).1),(4,.int .i64 (g).2),(5,.int .i64 i)]) (λ_ g b=>iR g b) (λg=>[(0,.str ⟨s.toArray⟩),(3,.int .i64 (g).1),(4,.int .i64 (g).2),(5,.int .i64 (s).length),(9,.bool false)]) (λi (g:Nat×Nat)=>g.1<65521/\g.2<65521) g hinv (λi b g hi hl hinv=>?_) (λi b g hi hinv=>?_) (λg hinv=>?_);·have hw:=aQ i (by first|omega|(simp at hl;omega));obtain⟨_,rfl⟩:=aF.1 hi;skip;simp -implicitDefEqProofs [BI,LO,hl,hw];exact SZ g s[i] hinv
 ·exact GS _ _
 ·simp -implicitDefEqProofs [BI,LO]
def Yr(s:ag)(hb:s.length<=9223372036854775807):ev LI TT 182 [.str ⟨s.toArray⟩]=some (.int .i64 (nG s),[.dead]):=by rw[aq (b:=Gm) (rs:=[.t 2]) (n:=1) rfl rfl];have h:=Vw s hb (1,0) (by simp);have h2:=Mc s;have e1:IntKind.i64.wrap (65521*((iQ s).2:Int))=65521*(iQ s).2:=bK (by omega) (by omega);have e2:IntKind.i64.wrap (65521*((iQ s).2:Int)+(iQ s).1)=65521*(iQ s).2+(iQ s).1:=bK (by omega) (by omega);rw[show foldI (λ_ g b=>iR g b) 0 s (1,0)=iQ s from rfl] at h;simp at h;simp -implicitDefEqProofs [Gm,h,e1,e2,nG];all_goals (repeat' split)<;>first|rfl|omega|(simp_all;done)|(simp_all;omega)|skip
def Uz(s:ag)(hb:s.length<=9223372036854775807)(g:Nat×Nat)(hinv:g.1<65521/\g.2<65521):aG (ai (ev LI TT) (aj TT) zX) [(0,.str ⟨s.toArray⟩),(3,.int .i64 (g).1),(4,.int .i64 (g).2),(5,.int .i64 0)]=some (.exit 0,[(0,.str ⟨s.toArray⟩),(3,.int .i64 ((foldI (λ_ g b=>iR g b) 0 (s) g)).1),(4,.int .i64 ((foldI (λ_ g b=>iR g b) 0 (s) g)).2),(5,.int .i64 (s).length),(9,.bool false)]):=by
 refine iu (f:=ai (ev LI TT) (aj TT) zX) (s) (λi (g:Nat×Nat)=>[(0,.str ⟨s.toArray⟩),(3,.int .i64 (g).1),(4,.int .i64 (g).2),(5,.int .i64 i)]) (λ_ g b=>iR g b) (λg=>[(0,.str ⟨s.toArray⟩),(3,.int .i64 (g).1),(4,.int .i64 (g).2),(5,.int .i64 (s).length),(9,.bool false)]) (λi (g:Nat×Nat)=>g.1<65521/\g.2<65521) g hinv (λi b g hi hl hinv=>?_) (λi b g hi hinv=>?_) (λg hinv=>?_);·have hw:=aQ i (by first|omega|(simp at hl;omega));obtain⟨_,rfl⟩:=aF.1 hi;skip;simp -implicitDefEqProofs [zX,J9,hl,hw];exact SZ g s[i] hinv
 ·exact GS _ _
 ·simp -implicitDefEqProofs [zX,J9]
def W8(s:ag)(hb:s.length<=9223372036854775807):ev LI TT 242 [.str ⟨s.toArray⟩]=some (.int .i64 (nG s),[.dead]):=by rw[aq (b:=Et) (rs:=[.t 2]) (n:=1) rfl rfl];have h:=Uz s hb (1,0) (by simp);have h2:=Mc s;have e1:IntKind.i64.wrap (65521*((iQ s).2:Int))=65521*(iQ s).2:=bK (by omega) (by omega);have e2:IntKind.i64.wrap (65521*((iQ s).2:Int)+(iQ s).1)=65521*(iQ s).2+(iQ s).1:=bK (by omega) (by omega);rw[show foldI (λ_ g b=>iR g b) 0 s (1,0)=iQ s from rfl] at h;simp at h;simp -implicitDefEqProofs [Et,h,e1,e2,nG];all_goals (repeat' split)<;>first|rfl|omega|(simp_all;done)|(simp_all;omega)|skip
def Ul(n:Nat)(out:ag)(hn:out.length+n<=9223372036854775807):aG (ai (ev LI TT) (aj TT) L0) [(0,.int .i64 n),(3,.str ⟨out.toArray⟩)]=some (.exit 0,[(0,.int .i64 0),(3,.str ⟨(pP n out).toArray⟩),(7,.bool false)]):=by
 have hs:∀s,ai (ev LI TT) (aj TT) L0 s=ai (ev LI TT) (aj TT) Gv s:=λ_=>rfl;induction n using Nat.strongRecOn generalizing out with
 |ind n ih=>
  rw[dY,hs];unfold pP;by_cases h:n=0;·subst h;simp -implicitDefEqProofs [Gv]
  ·have hp:0<n:=by omega
   have:=ih (n / 10) (by omega) (UInt8.ofNat (48+n%10)::out) (by rw[cR];omega);have e1:((n:Int)).tmod 10=((n%10:Nat):Int):=by rw[HB (by omega)];omega
   have e4:((n:Int)).tdiv 10=((n / 10:Nat):Int):=by rw[T7 (by omega)];omega
   have e2:IntKind.i64.wrap (48+((n%10:Nat):Int))=((48+n%10:Nat):Int):=by rw[bK (by omega) (by omega)];omega
   have e3:IntKind.u8.wrap ((48+n%10:Nat):Int)=((48+n%10:Nat):Int):=Mx (by omega) (by omega);have e5:=Tg (48+n%10) (by omega);have e6:IntKind.i64.wrap ((n / 10:Nat):Int)=((n / 10:Nat):Int):=bK (by omega) (by omega);simp only[h,dite_false];rw[<-this];simp -implicitDefEqProofs [Gv,hp,wU,e1,e2,e3,e4,e5,e6,-Int.natCast_emod,-Int.natCast_ediv,-Int.natCast_add,-UInt8.ofNat_add,iP,(by omega:1+out.length<=9223372036854775807)]
def ID(n:Nat)(hk:n<=9223372036854775800):ev LI TT 181 [.int .i64 (n:Int)]=some (.str ⟨(aX n).toArray⟩,[.dead]):=by
 rw[aq (b:=BR) (rs:=[.t 2]) (n:=1) rfl rfl];by_cases h:n=0;·subst h;simp -implicitDefEqProofs [BR,Dk]
 have h1:=Ul n [] (by simp;omega);rw[Rs n [] h,lH] at h1;simp -implicitDefEqProofs [BR,h,h1];all_goals (repeat' split)<;>first|rfl|omega|(simp_all;done)|(simp_all;omega)|skip
def Ll(n:Nat)(b:ag):ag:=aX (nG (aX n++32::(aX b.length++10::b)))++32::(aX n++32::(aX b.length++10::b))
def iw(n:Int)(b:ag):ag:=if 1<=n/\n<=100000/\b.length<=2000 then Ll n.toNat b else []
def Yn(n:Int)(b:ag)(hb:b.length<=9223372036854775807):ev LI TT 119 [.int .i64 n,.str ⟨b.toArray⟩]=some (.str ⟨(iw n b).toArray⟩,[.dead,.dead]):=by
 rw[aq (b:=xw) (rs:=[.t 4]) (n:=2) rfl rfl];by_cases h1:¬(1<=n/\n<=100000)
 ·have h1':¬(1<=n/\n<=100000/\b.length<=2000):=by omega
  simp -implicitDefEqProofs [xw,h1,iw,h1']
 by_cases h2:2000<b.length
 ·have h1':¬(1<=n/\n<=100000/\b.length<=2000):=by omega
  have gL:(2000:Int)<b.length:=by omega
  simp -implicitDefEqProofs [xw,h1,iw,h1',h2,gL]
 obtain⟨m,rfl⟩:∃m:Nat,n=m:=⟨n.toNat,by omega⟩;have l1:=qL 5 m (by omega);have l2:=qL 5 b.length (by omega);have l3:=qL 17 (nG (aX m++32::(aX b.length++10::b))) (Nat.lt_trans (GR _) (by decide));have k1:=ID m (by omega);have k2:=ID b.length (by omega);have k4:=ID (nG (aX m++32::(aX b.length++10::b))) (by have:=GR (aX m++32::(aX b.length++10::b));omega);have k3:=Yr (aX m++32::(aX b.length++10::b)) (by simp;omega);have gL:¬(2000<(b.length:Int)):=by omega
 have h3:1<=m/\m<=100000:=by omega
 have h4:b.length<=2000:=by omega
 simp -implicitDefEqProofs [xw,gL,h3,h4,k1,k2,k3,k4,iP,iw,Ll];repeat rw[ay (by omega)]
def WW(n:Int)(b:ag)(hb:b.length<=9223372036854775807):ev LI TT 201 [.int .i64 n,.str ⟨b.toArray⟩]=some (.str ⟨(iw n b).toArray⟩,[.dead,.dead]):=by
 rw[aq (b:=vR) (rs:=[.t 4]) (n:=2) rfl rfl];by_cases h1:¬(1<=n/\n<=100000)
 ·have h1':¬(1<=n/\n<=100000/\b.length<=2000):=by omega
  simp -implicitDefEqProofs [vR,h1,iw,h1']
 by_cases h2:2000<b.length
 ·have h1':¬(1<=n/\n<=100000/\b.length<=2000):=by omega
  have gL:(2000:Int)<b.length:=by omega
  simp -implicitDefEqProofs [vR,h1,iw,h1',h2,gL]
 obtain⟨m,rfl⟩:∃m:Nat,n=m:=⟨n.toNat,by omega⟩;have l1:=qL 5 m (by omega);have l2:=qL 5 b.length (by omega);have l3:=qL 17 (nG (aX m++32::(aX b.length++10::b))) (Nat.lt_trans (GR _) (by decide));have k1:=sO m (by omega);have k2:=sO b.length (by omega);have k4:=sO (nG (aX m++32::(aX b.length++10::b))) (by have:=GR (aX m++32::(aX b.length++10::b));omega);have k3:=W8 (aX m++32::(aX b.length++10::b)) (by simp;omega);have gL:¬(2000<(b.length:Int)):=by omega
 have h3:1<=m/\m<=100000:=by omega
 have h4:b.length<=2000:=by omega
 simp -implicitDefEqProofs [vR,gL,h3,h4,k1,k2,k3,k4,iP,iw,Ll];repeat rw[ay (by omega)]
end M
namespace M
open Go
def VO(s:ag)(hb:s.length<=1073741824)(g:List ag×Nat)(hinv:g.2<=0/\g.1.length<=0):aG (ai (ev LI TT) (aj TT) ux) [(0,.str ⟨s.toArray⟩),(3,.row .own 1 ((g).1.map eS)),(4,.int .i64 ((g).2:Nat)),(5,.int .i64 0)]=some (.exit 0,[(0,.str ⟨s.toArray⟩),(3,.row .own 1 (((foldI (fW 32 (λw=>[w]) s) 0 (s.map some++[none]) g)).1.map eS)),(4,.int .i64 (((foldI (fW 32 (λw=>[w]) s) 0 (s.map some++[none]) g)).2:Nat)),(5,.int .i64 (s.map some++[none]).length),(10,.bool false)]):=by
 refine iu (f:=ai (ev LI TT) (aj TT) ux) (s.map some++[none]) (λi (g:List ag×Nat)=>[(0,.str ⟨s.toArray⟩),(3,.row .own 1 ((g).1.map eS)),(4,.int .i64 ((g).2:Nat)),(5,.int .i64 i)]) (fW 32 (λw=>[w]) s) (λg=>[(0,.str ⟨s.toArray⟩),(3,.row .own 1 ((g).1.map eS)),(4,.int .i64 ((g).2:Nat)),(5,.int .i64 (s.map some++[none]).length),(10,.bool false)]) (λi (g:List ag×Nat)=>g.2<=i/\g.1.length<=i) g hinv (λi b g hi hl hinv=>?_) (λi b g hi hinv=>?_) (λg hinv=>?_)
 ·have hw:=aQ i (by first|omega|(simp at hl;omega));obtain⟨_,rfl⟩:=aF.1 hi;have hlz:(g.1.length+1)*16<=140737488355328:=by simp at hl;omega
  have yY:∀b:UInt8,((b.toNat:Int)=32)↔b=32:=λb=>⟨λh=>sC.1 (by have e:(32:UInt8).toNat=32:=rfl;omega),λh=>by subst h;rfl⟩;rcases RT s i hl with ⟨hi',e⟩|⟨rfl,e⟩
  ·rw[e];have k1:(i:Int)<=s.length:=by omega
   have k2:i<=s.length:=by omega
   have k3:¬i=s.length:=by omega
   have k4:¬(i:Int)=s.length:=by omega
   by_cases hx:s[i]=32;rotate_left;·have hx':=mt (yY s[i]).1 hx;simp -implicitDefEqProofs [ux,B2,k1,k2,k3,k4,hi',hw,fW,hx,hx']
   have hx':=(yY s[i]).2 hx;have e3:(s.take i).drop g.2=(s.drop g.2).take (i - g.2):=ye ..;simp -implicitDefEqProofs [ux,B2,k1,k2,k3,k4,hi',hw,fW,eq_true hx,hx',hinv,Lib.extract_mk,e3,dB,hlz]
  rw[e];have e3:(s.take s.length).drop g.2=(s.drop g.2).take (s.length - g.2):=ye ..;simp only[fW,e3];simp -implicitDefEqProofs [ux,B2,hl,hw,hinv,Lib.extract_mk,dB,hlz]
 ·exact P0 32 (λw=>[w]) (λ_=>e7 1) s i g b hinv
 ·have JG:¬((s.length:Int)+1<=s.length):=by omega
  simp -implicitDefEqProofs [ux,B2,JG]
def vn(s:ag)(hb:s.length<=1073741824):ev LI TT 117 [.str ⟨s.toArray⟩]=some (.row .own 1 ((bu 32 s).map eS),[.dead]):=by rw[aq (b:=GG) (rs:=[.t 2]) (n:=1) rfl rfl];have u1:=VO s hb ([],0) ⟨by omega,by simp⟩;rw[PL,List.flatMap_singleton' (bu 32 s)] at u1;simp at u1;simp -implicitDefEqProofs [GG,u1];all_goals (repeat' split)<;>first|rfl|omega|(simp_all;done)|(simp_all;omega)|skip
def OZ(c:UInt8):∀(s:ag) (k:Nat),(cU (λb=>decide ((b.toNat:Int)=c.toNat)) k s).map (λx=>(x.1 - k))=(cH c s).map λp=>p.1.length
 |[],k=>rfl
 |b::s,k=>by
  have hb:((b.toNat:Int)=c.toNat)↔b=c:=⟨λh=>sC.1 (by omega),λh=>by subst h;rfl⟩;unfold cU cH;by_cases h:b=c;·simp[hb,h]
  ·have ih:=OZ c s (k+1);simp only[hb,h,M3,fL,cT];cases hf:cU (λb=>decide ((b.toNat:Int)=c.toNat)) (k+1) s with
   |none=>
    rw[hf] at ih;cases hc:cH c s with
    |none=>rfl
    |some p=>rw[hc] at ih;simp at ih
   |some x=>
    rw[hf] at ih;cases hc:cH c s with
    |none=>rw[hc] at ih;simp at ih
    |some p=>rw[hc] at ih;have hx:=(qR (i:=x.1) (b:=x.2) hf).1;simp at ih⊢;omega
def Dd{c:UInt8}:∀{s:ag} {p:ag×ag},cH c s=some p->s=p.1++c::p.2
 |[],p,h=>by cases h
 |b::s,p,h=>by
  unfold cH at h;split at h;·rename_i hb;cases h;simp[hb]
  ·cases hc:cH c s with
   |none=>rw[hc] at h;cases h
   |some q=>rw[hc] at h;cases h;simp[<-Dd hc]
def VC(s:ag)(k:Nat)(hk:k<=s.length)(hb:s.length<=1073741824):aG (ai (ev LI TT) (aj TT) BO) [(0,.str ⟨s.toArray⟩),(1,.int .i64 (k:Nat)),(6,.int .i64 ((k+0:Nat):Int))]=(cU (λb=>decide ((b.toNat:Int)=(10:UInt8).toNat)) 0 (s.drop k)).elim (some (.exit 0,[(0,.str ⟨s.toArray⟩),(1,.int .i64 (k:Nat)),(6,.int .i64 ((k+(s.drop k).length:Nat):Int)),(11,.bool false)])) λx=>some (.ret,(λ(i:Nat) b=>[(4,.str ⟨((s.drop k).take i).toArray⟩),(5,.int .i64 ((k+i+1:Nat):Int))]) x.1 x.2):=by
 refine rI (f:=ai (ev LI TT) (aj TT) BO) (s.drop k) (λi=>[(0,.str ⟨s.toArray⟩),(1,.int .i64 (k:Nat)),(6,.int .i64 ((k+i:Nat):Int))]) (λb=>decide ((b.toNat:Int)=(10:UInt8).toNat)) (λ(i:Nat) b=>[(4,.str ⟨((s.drop k).take i).toArray⟩),(5,.int .i64 ((k+i+1:Nat):Int))]) _ (λi b hi hl=>?_) ?_
 ·have hw:=aQ i (by simp at hl;omega);obtain⟨_,rfl⟩:=aF.1 hi;simp at hl;have h1:k+i<s.length:=by omega
  have h2:=aQ (k+i) (by omega);have h3:((k+i:Nat):Int)<s.length:=by omega
  have h4:(10:UInt8).toNat=10:=rfl;have h5:(k:Int)<=((k+i:Nat):Int):=by omega
  have h6:((k+i:Nat):Int)<=s.length:=by omega
  simp at h2 h3 h5 h6;have h7:((k:Int)+(i:Int)).toNat=k+i:=by omega
  have h8:(0:Int)<=(k:Int)+(i:Int):=by omega
  have h9:(s.take (k+i)).drop k=(s.drop k).take i:=by rw[ye];congr 1;omega
  simp -implicitDefEqProofs [BO,LV,hl,hw,h1,h2,h3,h4,h5,h6,h7,h8,h9,Lib.extract_mk];all_goals (repeat' split)<;>first|rfl|omega|(simp_all;done)|(simp_all;omega)|skip
 ·have hz:k+(s.length - k)=s.length:=by omega
  have fG:(k:Int)+((s.length - k:Nat):Int)=s.length:=by omega
  simp -implicitDefEqProofs [BO,LV,hz,fG]
def wR(s:ag)(k:Nat):Int:=match cH 10 (s.drop k) with
 |some p=>((s.length - p.2.length:Nat):Int)
 |none=>-1
def wT(s:ag)(k:Nat):ag:=match cH 10 (s.drop k) with
 |some p=>p.1
 |none=>[]
def C6(s:ag)(k:Nat)(hk:k<=s.length)(hb:s.length<=1073741824):ev LI TT 116 [.str ⟨s.toArray⟩,.int .i64 (k:Int)]=some (.au [.str ⟨(wT s k).toArray⟩,.int .i64 (wR s k)],[.dead,.dead]):=by
 rw[aq (b:=BP) (rs:=[.t 4,.t 5]) (n:=2) rfl rfl];have hc:=OZ 10 (s.drop k) 0;unfold wT wR;have u1:=VC s k hk hb;try simp at u1
 cases g:cU (λb:UInt8=>decide ((b.toNat:Int)=10)) 0 (s.drop k) with
 |none=>
  have h4:(10:UInt8).toNat=10:=rfl;rw[h4] at hc;simp only[Int.cast_ofNat_Int] at hc;rw[g] at u1 hc;cases hq:cH 10 (s.drop k) with
  |some p=>rw[hq] at hc;simp at hc
  |none=>simp at u1;simp -implicitDefEqProofs [BP,u1]
 |some x=>
 have h4:(10:UInt8).toNat=10:=rfl;rw[h4] at hc;simp only[Int.cast_ofNat_Int] at hc;rw[g] at u1 hc;cases hq:cH 10 (s.drop k) with
 |none=>rw[hq] at hc;simp at hc
 |some p=>
 rw[hq] at hc;have he:=Dd hq;have hx:x.1=p.1.length:=by simpa using hc
 have ht:(s.drop k).take x.1=p.1:=by rw[hx,he];simp
 have hl:=dr List.length he;simp at hl;have hn:((s.length - p.2.length:Nat):Int)=((k+x.1+1:Nat):Int):=by omega
 simp only[Option.elim,ht] at u1;try simp at u1
 simp -implicitDefEqProofs [BP,u1,hn];all_goals (repeat' split)<;>first|rfl|omega|(simp_all;done)|(simp_all;omega)|skip
def sY{s:ag}{p:ag×ag}(h:cH 10 s=some p):p.2.length<s.length/\s.drop (s.length - p.2.length)=p.2/\p.1.length<s.length:=by
 have he:=Dd h;have hl:=dr List.length he;simp at hl;refine⟨by omega,?_,by omega⟩;have:s.length - p.2.length=(p.1++[10]).length:=by simp;omega
 rw[this,he];have e:p.1++10::p.2=(p.1++[10])++p.2:=by simp
 rw[e,uQ]
end M
namespace M
open Go
def cA(s:ag):Int×ag×Bool:=match cH 10 s with
 |some (l,b)=>match bu 32 l with
  |[_,w,_]=>if iw ((bq w).getD 0:Nat) b=s then ((((bq w).getD 0:Nat):Int),b,true) else (0,[],false)
  |_=>(0,[],false)
 |none=>(0,[],false)
def Ol(s:ag)(hb:s.length<=1073741824):ev LI TT 54 [.str ⟨s.toArray⟩]=some (.au [.int .i64 ((cA s).1),.str ⟨((cA s).2.1).toArray⟩,.bool ((cA s).2.2)],[.dead]):=by
 rw[aq (b:=p7) (rs:=[.t 2,.t 3,.t 4]) (n:=1) rfl rfl];have u1:=C6 s 0 (by omega) hb;simp only[wT,wR,HE] at u1;unfold cA;cases hc:cH 10 s with
 |none=>rw[hc] at u1;have u2:=vn [] (by simp);simp at u1 u2;simp -implicitDefEqProofs [p7,u1,u2]
 |some p=>
 obtain⟨l,b⟩:=p;rw[hc] at u1;have hd:=sY hc;simp only at hd;obtain⟨d1,d2,d3⟩:=hd;have u2:=vn l (by omega);have d4:¬(((s.length - b.length:Nat):Int)<0):=by omega
 have d5:s.length - b.length<=s.length:=by omega
 have d6:¬s=[]:=by rintro rfl;simp at d1
 have hm:=oF 32 l;simp only at u1;generalize s.length - b.length=e at u1 d2 d4 d5;have d7:(e:Int)<=s.length:=by omega
 rcases hw:bu 32 l with _|⟨w0,_|⟨w1,_|⟨w2,_|⟨w3,ws⟩⟩⟩⟩;·exact absurd hw (xL 32 l)
 ·rw[hw] at u2;simp at u1 u2;simp -implicitDefEqProofs [p7,u1,u2,hw,d4]
 ·rw[hw] at u2;simp at u1 u2;simp -implicitDefEqProofs [p7,u1,u2,hw,d4]
 rotate_left
 ·rw[hw] at u2;have hn:¬((ws.length:Int)+1+1+1+1=3):=by omega
  simp at u1 u2;simp -implicitDefEqProofs [p7,u1,u2,hw,d4,hn]
 have hw1:=hm w1 (by rw[hw];simp);rw[hw] at u2;have u3:=vl w1 (by omega);have u4:=Yn ((bq w1).getD 0:Nat) b (by omega);simp at u1 u2 u3;obtain⟨n,hn⟩:∃n,(bq w1).getD 0=n:=⟨_,rfl⟩;rw[hn] at u3 u4;have d8:s.length - e=b.length:=by rw[<-d2];simp
 by_cases g:iw (n:Int) b=s;·simp -implicitDefEqProofs [p7,u1,u2,hw,u3,u4,d2,d4,d5,d6,d7,d8,hn,eq_true g,Lib.extract_mk]
 simp -implicitDefEqProofs [p7,u1,u2,hw,u3,u4,d2,d4,d5,d6,d7,d8,hn,eq_false g,Lib.extract_mk];all_goals (repeat' split)<;>first|rfl|omega|(simp_all;done)|(simp_all;omega)|skip
def NX(s:ag)(hb:s.length<=1073741824):ev LI TT 139 [.str ⟨s.toArray⟩]=some (.au [.int .i64 ((cA s).1),.str ⟨((cA s).2.1).toArray⟩,.bool ((cA s).2.2)],[.dead]):=by
 rw[aq (b:=mV) (rs:=[.t 2,.t 3,.t 4]) (n:=1) rfl rfl];have u1:=vp s [10] (by omega);have ec:=Di 10 s;unfold cA;cases hc:cH 10 s with
 |none=>rw[hc] at ec;have u2:=sP s 32 (by omega);simp only at ec;rw[ec] at u1;simp at u1 u2;simp -implicitDefEqProofs [mV,u1,u2]
 |some p=>
 obtain⟨l,b⟩:=p;rw[hc] at ec;simp only at ec;rw[ec] at u1;have hd:=sY hc;simp only at hd;obtain⟨d1,d2,d3⟩:=hd;have u2:=sP l 32 (by omega);have d6:¬s=[]:=by rintro rfl;simp at d1
 have hm:=oF 32 l;simp only at u1;rcases hw:bu 32 l with _|⟨w0,_|⟨w1,_|⟨w2,_|⟨w3,ws⟩⟩⟩⟩;·exact absurd hw (xL 32 l)
 ·rw[hw] at u2;simp at u1 u2;simp -implicitDefEqProofs [mV,u1,u2,hw]
 ·rw[hw] at u2;simp at u1 u2;simp -implicitDefEqProofs [mV,u1,u2,hw]
 rotate_left
 ·rw[hw] at u2;have hn:¬((ws.length:Int)+1+1+1+1=3):=by omega
  simp at u1 u2;simp -implicitDefEqProofs [mV,u1,u2,hw,hn]
 have hw1:=hm w1 (by rw[hw];simp);rw[hw] at u2;have u3:=vk w1 (by omega);cases hq:bq w1 with
 |none=>
  rw[hq] at u3;have g:¬iw ((0:Nat):Int) b=s:=by rw[show iw ((0:Nat):Int) b=[] by unfold iw;rw[aD (by omega)]];exact λh=>d6 h.symm
  simp at u1 u2 u3 g;simp -implicitDefEqProofs [mV,u1,u2,hw,hq,u3,eq_false g]
 |some n=>
 rw[hq] at u3;have u4:=WW (n:Int) b (by omega);simp at u1 u2 u3;by_cases h0:n=0
 ·subst h0;have g:¬iw ((0:Nat):Int) b=s:=by rw[show iw ((0:Nat):Int) b=[] by unfold iw;rw[aD (by omega)]];exact λh=>d6 h.symm
  simp at g;simp -implicitDefEqProofs [mV,u1,u2,hw,hq,u3,eq_false g]
 by_cases g:iw (n:Int) b=s;·simp -implicitDefEqProofs [mV,u1,u2,hw,hq,u3,u4,h0,eq_true g]
 simp -implicitDefEqProofs [mV,u1,u2,hw,hq,u3,u4,h0,eq_false g];all_goals (repeat' split)<;>first|rfl|omega|(simp_all;done)|(simp_all;omega)|skip
end M
set_option maxHeartbeats 4000000
namespace M
open Go
def nJ:ag:=[112,97,116,104]
def nH:ag:=[98,101,108,111,119]
def nI:ag:=[102,105,101,108,100]
def mC(k:Int):ag:=if k=1 then nJ else if k=2 then nH else nI
def pL(w:ag):Int:=if w=nJ then 1 else if w=nH then 2 else if w=nI then 3 else 0
def ke(b:Bn):ag:=if dV b=true then [98,97,110]++32::(mC b.kind++32::(eM b.t++32::(b.a++if b.kind=3 then 10::b.b else []))) else []
def NP{b:Bn}(h:dV b=true):b.kind=1\/b.kind=2\/b.kind=3:=by
 unfold dV at h;by_cases h1:b.kind=1;·exact Or.inl h1
 by_cases h2:b.kind=2;·exact Or.inr (Or.inl h2)
 by_cases h3:b.kind=3;·exact Or.inr (Or.inr h3)
 simp[h1,h2,h3] at h
def alw(k:Int):(mC k).length<=5:=by unfold mC;(repeat' split)<;>simp[nJ,nH,nI]
def C4(k:Int)(hk:k=1\/k=2\/k=3):ev LI TT 202 [.int .i64 k]=some (.str ⟨(mC k).toArray⟩,[.dead]):=by
 rw[aq (b:=Ez) (rs:=[.t 2]) (n:=1) rfl rfl];rcases hk with rfl|rfl|rfl;all_goals
 simp -implicitDefEqProofs [Ez,mC,nJ,nH,nI,B6,uy,wU,bK];all_goals (repeat' split)<;>first|rfl|omega|(simp_all;done)|(simp_all;omega)|skip
def Yb(b:Bn)(hb:aV b<=1073741824):ev LI TT 180 [.agg (aW b)]=some (.str ⟨(ke b).toArray⟩,[.dead]):=by
 rw[aq (b:=Bp) (rs:=[.t 2]) (n:=1) rfl rfl];obtain⟨kd,a0,b0,t0⟩:=b;have hw:aV ⟨kd,a0,b0,t0⟩=a0.length+b0.length:=rfl;have l1:=FQ t0;unfold ke;have u1:=Iv ⟨kd,a0,b0,t0⟩ hb;try simp at u1
 have u2:=vm t0;try simp at u2
 by_cases g:dV ⟨kd,a0,b0,t0⟩=true;rotate_left;·simp -implicitDefEqProofs [Bp,u1,u2,g]
 rw[g] at u1;rcases NP g with h|h|h;all_goals simp only at h
 all_goals subst h
 all_goals
 simp -implicitDefEqProofs [Bp,u1,u2,g,mC,nJ,nH,nI,B6,uy,wU,bK,iP,LA];all_goals (try simp only[*,not_false_eq_true,cT,lH])
 all_goals (repeat rw[ay (by omega)])
 all_goals (try simp)
 all_goals first|done|omega|(refine⟨by omega,by omega,?_⟩;rw[show (⟨#[10]⟩:ByteArray)=⟨([10]:ag).toArray⟩ from rfl,iP,iP];simp;done)|skip
def WH(b:Bn)(hb:aV b<=1073741824):ev LI TT 203 [.agg (aW b)]=some (.str ⟨(ke b).toArray⟩,[.dead]):=by
 rw[aq (b:=zF) (rs:=[.t 2]) (n:=1) rfl rfl];obtain⟨kd,a0,b0,t0⟩:=b;have hw:aV ⟨kd,a0,b0,t0⟩=a0.length+b0.length:=rfl;have l1:=FQ t0;have l2:=alw kd;unfold ke;have u1:=H9 ⟨kd,a0,b0,t0⟩ hb;try simp at u1
 have u2:=NW t0;try simp at u2
 by_cases g:dV ⟨kd,a0,b0,t0⟩=true;rotate_left;·simp -implicitDefEqProofs [zF,u1,u2,g]
 rw[g] at u1;have u3:=C4 kd (NP g);try simp at u3
 by_cases h:kd=3;all_goals (try subst h)
 all_goals
 simp -implicitDefEqProofs [zF,u1,u2,u3,g,iP];all_goals (try simp only[*,not_false_eq_true,cT,lH])
 all_goals (repeat rw[ay (by omega)])
 all_goals (try simp)
 all_goals first|done|omega|(refine⟨by omega,by omega,?_⟩;rw[show (⟨#[10]⟩:ByteArray)=⟨([10]:ag).toArray⟩ from rfl,iP,iP];simp;done)|skip
end M
set_option maxHeartbeats 4000000
namespace M
open Go
def fm:List ag:=[nJ,nH,nI]
def rB(w:ag)(i:Nat)(g:Int)(b:ag):Int:=if b=w then ((1+i:Nat):Int) else g
def Q6(w:ag):foldI (rB w) 0 fm 0=pL w:=by
 unfold pL rB;simp only[fm,foldI];by_cases h1:w=nJ;·subst h1;rfl
 by_cases h2:w=nH;·subst h2;rfl
 by_cases h3:w=nI;·subst h3;rfl
 simp[h1,h2,h3,uK h1,uK h2,uK h3,eq_comm (b:=w)]
def Vc(s w0 w1 w2 w3 v:ag)(g:Int)(hinv:True):aG (ai (ev LI TT) (aj TT) Bo) [(0,.str ⟨s.toArray⟩),(2,.ptr .own [.int .i64 0,.str ⟨#[]⟩,.str ⟨#[]⟩,.int .i64 0]),(6,.ptr .own [.int .i64 g,.str ⟨#[]⟩,.str ⟨v.toArray⟩,.int .i64 0]),(7,.row .own 1 ([w0,w1,w2,w3].map eS)),(8,.row .own 1 (([]::fm).map eS)),(9,.int .i64 ((1+0:Nat):Int))]=some (.exit 0,[(0,.str ⟨s.toArray⟩),(2,.ptr .own [.int .i64 0,.str ⟨#[]⟩,.str ⟨#[]⟩,.int .i64 0]),(6,.ptr .own [.int .i64 (foldI (rB w1) 0 (fm) g),.str ⟨#[]⟩,.str ⟨v.toArray⟩,.int .i64 0]),(7,.row .own 1 ([w0,w1,w2,w3].map eS)),(8,.row .own 1 (([]::fm).map eS)),(9,.int .i64 4),(33,.bool false)]):=by
 refine iu (f:=ai (ev LI TT) (aj TT) Bo) (fm) (λi (g:Int)=>[(0,.str ⟨s.toArray⟩),(2,.ptr .own [.int .i64 0,.str ⟨#[]⟩,.str ⟨#[]⟩,.int .i64 0]),(6,.ptr .own [.int .i64 g,.str ⟨#[]⟩,.str ⟨v.toArray⟩,.int .i64 0]),(7,.row .own 1 ([w0,w1,w2,w3].map eS)),(8,.row .own 1 (([]::fm).map eS)),(9,.int .i64 ((1+i:Nat):Int))]) (rB w1) (λg=>[(0,.str ⟨s.toArray⟩),(2,.ptr .own [.int .i64 0,.str ⟨#[]⟩,.str ⟨#[]⟩,.int .i64 0]),(6,.ptr .own [.int .i64 g,.str ⟨#[]⟩,.str ⟨v.toArray⟩,.int .i64 0]),(7,.row .own 1 ([w0,w1,w2,w3].map eS)),(8,.row .own 1 (([]::fm).map eS)),(9,.int .i64 4),(33,.bool false)]) (λi (g:Int)=>True) g hinv (λi b g hi hl hinv=>?_) (λi b g hi hinv=>?_) (λg hinv=>?_)
 ·have hw:=aQ i (by simp[fm] at hl;omega);obtain⟨_,rfl⟩:=aF.1 hi;have h3:i=0\/i=1\/i=2:=by simp[fm] at hl;omega
  by_cases hq:fm[i]=w1;all_goals rcases h3 with rfl|rfl|rfl
  all_goals simp only[fm,HH,Nj] at hq
  all_goals
  simp -implicitDefEqProofs [Bo,Lz,hl,hw,rB,hq,fm,bK]
 ·trivial
 ·simp -implicitDefEqProofs [Bo,Lz,fm]
def Um(s w0 w1 w2 w3 v:ag)(is:Bool)(n:Int)(g:Int)(hinv:True):aG (ai (ev LI TT) (aj TT) zE) [(0,.str ⟨s.toArray⟩),(2,.ptr .own [.int .i64 0,.str ⟨#[]⟩,.str ⟨#[]⟩,.int .i64 0]),(7,.row .own 1 ([w0,w1,w2,w3].map eS)),(9,.bool is),(10,.ptr .own [.int .i64 g,.str ⟨w3.toArray⟩,.str ⟨v.toArray⟩,.int .i64 n]),(11,.int .i64 ((1+0:Nat):Int))]=some (.exit 0,[(0,.str ⟨s.toArray⟩),(2,.ptr .own [.int .i64 0,.str ⟨#[]⟩,.str ⟨#[]⟩,.int .i64 0]),(7,.row .own 1 ([w0,w1,w2,w3].map eS)),(9,.bool is),(10,.ptr .own [.int .i64 (foldI (rB w1) 0 (fm) g),.str ⟨w3.toArray⟩,.str ⟨v.toArray⟩,.int .i64 n]),(11,.int .i64 4),(38,.bool false)]):=by
 refine iu (f:=ai (ev LI TT) (aj TT) zE) (fm) (λi (g:Int)=>[(0,.str ⟨s.toArray⟩),(2,.ptr .own [.int .i64 0,.str ⟨#[]⟩,.str ⟨#[]⟩,.int .i64 0]),(7,.row .own 1 ([w0,w1,w2,w3].map eS)),(9,.bool is),(10,.ptr .own [.int .i64 g,.str ⟨w3.toArray⟩,.str ⟨v.toArray⟩,.int .i64 n]),(11,.int .i64 ((1+i:Nat):Int))]) (rB w1) (λg=>[(0,.str ⟨s.toArray⟩),(2,.ptr .own [.int .i64 0,.str ⟨#[]⟩,.str ⟨#[]⟩,.int .i64 0]),(7,.row .own 1 ([w0,w1,w2,w3].map eS)),(9,.bool is),(10,.ptr .own [.int .i64 g,.str ⟨w3.toArray⟩,.str ⟨v.toArray⟩,.int .i64 n]),(11,.int .i64 4),(38,.bool false)]) (λi (g:Int)=>True) g hinv (λi b g hi hl hinv=>?_) (λi b g hi hinv=>?_) (λg hinv=>?_)
 ·have hw:=aQ i (by simp[fm] at hl;omega);obtain⟨_,rfl⟩:=aF.1 hi;have h3:i=0\/i=1\/i=2:=by simp[fm] at hl;omega
  have b1:=C4 1 (by omega);have b2:=C4 2 (by omega);have b3:=C4 3 (by omega);simp only[mC,cG,show ¬((2:Int)=1) by omega,show ¬((3:Int)=1) by omega,show ¬((3:Int)=2) by omega,cT] at b1 b2 b3;try simp at b1
  try simp at b2
  try simp at b3
  by_cases hq:fm[i]=w1;all_goals rcases h3 with rfl|rfl|rfl
  all_goals simp only[fm,HH,Nj] at hq
  all_goals
  simp -implicitDefEqProofs [zE,JY,hl,hw,rB,hq,fm,bK,b1,b2,b3]
 ·trivial
 ·simp -implicitDefEqProofs [zE,JY,fm]
def zB:Bn:=⟨0,[],[],0⟩
def iY(s:ag):ag×ag:=match cH 10 s with
 |some p=>p
 |none=>(s,[])
def sM(s v:ag)(ws:List ag):Bn×Bool:=match ws with
 |[_,w,t,a]=>if ke ⟨pL w,a,v,((bq t).getD 0:Nat)⟩=s then (⟨pL w,a,v,((bq t).getD 0:Nat)⟩,true) else (zB,false)
 |_=>(zB,false)
def gu(s:ag):Bn×Bool:=sM s (iY s).2 (bu 32 (iY s).1)
def NQ{s v:ag}{ws:List ag}(h:ws.length≠4):sM s v ws=(zB,false):=by
 unfold sM;split;·simp at h
 ·rfl
def Fx{ws:List ag}(h:ws.length=4):∃a b c d,ws=[a,b,c,d]:=by
 match ws,h with
 |[a,b,c,d],_=>exact⟨a,b,c,d,rfl⟩
def NO(s:ag):(iY s).1.length<=s.length/\(iY s).2.length<=s.length:=by
 unfold iY;cases h:cH 10 s with
 |none=>simp
 |some p=>have:=dr List.length (Dd h);simp at this⊢;omega
def OY:∀(p r:ag),(∀b∈p,b≠10)->cH 10 (p++r)=(cH 10 r).map λq=>(p++q.1,q.2)
 |[],r,_=>by simp
 |b::p,r,h=>by rw[dw,cH,aD (h b (bF ..)),OY p r λx hx=>h x (b8 _ hx)];cases cH 10 r<;>simp
def Wm(p r:ag)(h:∀b∈p,b≠10):(iY (p++r)).1=p++(iY r).1:=by unfold iY;rw[OY p r h];cases cH 10 r<;>simp
def Ma(w r:ag)(h:∀b∈w,b≠32):bu 32 (w++32::r)=w::bu 32 r:=by rw[B7 32 w _ h];simp[bu]
def Tt(k:Int):∀b∈mC k,b≠32/\b≠10:=by unfold mC;(repeat' split)<;>simp[nJ,nH,nI]
def Wt{s w0 w1 w2 w3 v a:ag}{k:Int}(h:ke ⟨k,a,v,0⟩=s)(hs:bu 32 (iY s).1=[w0,w1,w2,w3]):bq w2≠none\/s=[]:=by
 unfold ke at h;split at h
 ·left;have e:eM 0=[48]:=by simp[eM,Dk]
  rw[e] at h;simp only at h;have e2:s=([98,97,110,32]++(mC k++[32,48,32]))++(a++if k=3 then 10::v else []):=by rw[<-h];simp
  rw[e2,Wm _ _ (by intro b hb;simp at hb;rcases hb with rfl|rfl|rfl|rfl|hb|rfl|rfl|rfl<;>first|decide|exact(Tt k b hb).2)] at hs;have e3:[98,97,110,32]++(mC k++[32,48,32])++(iY (a++if k=3 then 10::v else [])).1=[98,97,110]++32::(mC k++32::([48]++32::(iY (a++if k=3 then 10::v else [])).1)):=by simp
  rw[e3,Ma _ _ (by decide),Ma _ _ (λb hb=>(Tt k b hb).1),Ma _ _ (by decide)] at hs;simp only[uP] at hs;obtain⟨_,_,rfl,_⟩:=hs;simp[bq,lC,Dk]
 ·right;exact h.symm
def Ya(s:ag)(hb:s.length<=1048576):ev LI TT 115 [.str ⟨s.toArray⟩]=some (.au [.agg (aW ((gu s).1)),.bool ((gu s).2)],[.dead]):=by
 rw[aq (b:=pY) (rs:=[.c 2 4 true 75,.t 3]) (n:=1) rfl rfl];have u1:=C6 s 0 (by omega) (by omega);have bl:=NO s;simp only[wT,wR,HE] at u1;unfold gu
 have hX:∃l v e,iY s=(l,v)/\((e=-1/\v=[]/\l=s/\ev LI TT 116 [.str ⟨s.toArray⟩,.int .i64 0]=some (.au [.str ⟨#[]⟩,.int .i64 (-1)],[.dead,.dead]))\/(∃m:Nat,e=(m:Int)/\m<=s.length/\s.length - m=v.length/\s.drop m=v/\ev LI TT 116 [.str ⟨s.toArray⟩,.int .i64 0]=some (.au [.str ⟨l.toArray⟩,.int .i64 m],[.dead,.dead]))):=by
  unfold iY;cases hc:cH 10 s with
  |none=>rw[hc] at u1;exact⟨s,[],-1,rfl,Or.inl ⟨rfl,rfl,rfl,by simpa using u1⟩⟩
  |some p=>obtain⟨l,v⟩:=p;rw[hc] at u1;obtain⟨d1,d2,d3⟩:=sY hc;exact⟨l,v,_,rfl,Or.inr ⟨s.length - v.length,rfl,by omega,by simp only at d1;omega,d2,by simpa using u1⟩⟩
 clear u1;obtain⟨l,v,e,he,hX⟩:=hX;rw[he] at bl⊢;simp only at bl⊢;have u2:=vn l (by omega);have hm:=oF 32 l;by_cases h4:(bu 32 l).length=4;rotate_left
 ·rw[NQ h4];have qV:¬(((bu 32 l).length:Int)=4):=by omega
  try simp at u2
  rcases hX with ⟨rfl,rfl,rfl,u1⟩|⟨m,rfl,k1,k2,k3,u1⟩;·simp -implicitDefEqProofs [pY,u1,u2,qV,zB]
  ·have k4:¬((m:Int)<0):=by omega
   have k5:(m:Int)<=s.length:=by omega
   simp -implicitDefEqProofs [pY,u1,u2,qV,zB,k1,k2,k3,k4,k5,Lib.extract_mk]
 obtain⟨w0,w1,w2,w3,hw⟩:=Fx h4;rw[hw] at u2 hm⊢;have u3:=vl w2 (by have:=hm w2 (by simp);omega);have u4:=Yb ⟨pL w1,w3,v,((bq w2).getD 0:Nat)⟩ (by have:=hm w3 (by simp);simp only[aV];omega);have u5:=Vc s w0 w1 w2 w3 v 0 trivial;rw[Q6] at u5;obtain⟨n,hn⟩:∃n,(bq w2).getD 0=n:=⟨_,rfl⟩;unfold sM;simp only[hn] at u3 u4⊢;simp[fm,nJ,nH,nI] at u2 u3 u4 u5;by_cases g:ke ⟨pL w1,w3,v,(n:Int)⟩=s;all_goals rcases hX with ⟨rfl,rfl,rfl,u1⟩|⟨m,rfl,k1,k2,k3,u1⟩
 ·simp -implicitDefEqProofs [pY,u1,u2,u3,u4,u5,eq_true g,zB]
 ·have k4:¬((m:Int)<0):=by omega
  have k5:(m:Int)<=s.length:=by omega
  simp -implicitDefEqProofs [pY,u1,u2,u3,u4,u5,eq_true g,zB,k1,k2,k3,k4,k5,Lib.extract_mk]
 ·simp -implicitDefEqProofs [pY,u1,u2,u3,u4,u5,eq_false g,zB]
 have k4:¬((m:Int)<0):=by omega
 have k5:(m:Int)<=s.length:=by omega
 simp -implicitDefEqProofs [pY,u1,u2,u3,u4,u5,eq_false g,zB,k1,k2,k3,k4,k5,Lib.extract_mk];all_goals (repeat' split)<;>first|rfl|omega|(simp_all;done)|(simp_all;omega)|skip
def WG(s:ag)(hb:s.length<=1048576):ev LI TT 141 [.str ⟨s.toArray⟩]=some (.au [.agg (aW ((gu s).1)),.bool ((gu s).2)],[.dead]):=by
 rw[aq (b:=tD) (rs:=[.c 2 4 true 75,.t 3]) (n:=1) rfl rfl];have u1:=vp s [10] (by omega);have ec:=Di 10 s;have bl:=NO s;unfold gu
 have hX:∃l v k,iY s=(l,v)/\ev LI TT 198 [.str ⟨s.toArray⟩,.str ⟨#[10]⟩]=some (.au [.str ⟨l.toArray⟩,.str ⟨v.toArray⟩,.bool k],[.dead,.dead]):=by
  unfold iY;cases hc:cH 10 s with
  |none=>rw[hc] at ec;simp only at ec;rw[ec] at u1;exact⟨s,[],_,rfl,u1⟩
  |some p=>rw[hc] at ec;simp only at ec;rw[ec] at u1;exact⟨p.1,p.2,_,rfl,u1⟩
 clear u1 ec;obtain⟨l,v,k,he,u1⟩:=hX;have hz:=λw0 w1 w2 w3 v a k=>Wt (s:=s) (w0:=w0) (w1:=w1) (w2:=w2) (w3:=w3) (v:=v) (a:=a) (k:=k);rw[he] at bl hz⊢;simp only at bl hz⊢;have u2:=sP l 32 (by omega);have hm:=oF 32 l;by_cases h4:(bu 32 l).length=4;rotate_left
 ·rw[NQ h4];have qV:¬(((bu 32 l).length:Int)=4):=by omega
  try simp at u2
  simp -implicitDefEqProofs [tD,u1,u2,qV,zB]
 obtain⟨w0,w1,w2,w3,hw⟩:=Fx h4;rw[hw] at u2 hm hz⊢;have u3:=vk w2 (by have:=hm w2 (by simp);omega);have u4:=WH ⟨pL w1,w3,v,((bq w2).getD 0:Nat)⟩ (by have:=hm w3 (by simp);simp only[aV];omega);have u5:=Um s w0 w1 w2 w3 v (bq w2).isSome ((bq w2).getD 0:Nat) 0 trivial;rw[Q6] at u5;unfold sM;cases hn:bq w2 with
 |none=>
  rw[hn] at u3 u4 u5
  have g:¬ke ⟨pL w1,w3,v,0⟩=s:=by
   intro g;rcases hz _ _ _ _ _ _ _ g rfl with h|h;·exact h hn
   ·subst h;rw[show iY []=([],[]) from rfl] at he;obtain⟨rfl,rfl⟩:=CF he;simp[bu] at h4
  simp[fm,nJ,nH,nI] at u2 u3 u4 u5 g;simp -implicitDefEqProofs [tD,u1,u2,u3,u4,u5,hn,eq_false g,zB]
 |some n=>
 rw[hn] at u3 u4 u5;simp[fm,nJ,nH,nI] at u2 u3 u4 u5;by_cases g:ke ⟨pL w1,w3,v,(n:Int)⟩=s;·simp -implicitDefEqProofs [tD,u1,u2,u3,u4,u5,hn,eq_true g,zB]
 simp -implicitDefEqProofs [tD,u1,u2,u3,u4,u5,hn,eq_false g,zB];all_goals (repeat' split)<;>first|rfl|omega|(simp_all;done)|(simp_all;omega)|skip
end M
set_option maxHeartbeats 4000000
namespace M
open Go
def Sf{s:ag}(h:(cA s).2.2=false):cA s=(0,[],false):=by
 unfold cA at h⊢;(repeat' split at h)<;>first|(cases h;done)|skip
 all_goals (repeat' split)<;>simp_all
def FZ{s:ag}(h:(cA s).2.2=true):1<=(cA s).1/\(cA s).1<=100000/\(cA s).2.1.length<=2000/\iw (cA s).1 (cA s).2.1=s/\s≠[]:=by
 unfold cA at h⊢;cases hc:cH 10 s with
 |none=>simp[hc] at h
 |some p=>
  obtain⟨l,b⟩:=p;have hs:s≠[]:=by rintro rfl;simp[cH] at hc
  simp only[hc] at h⊢;split at h
  ·rename_i w0 w w2 hw;split at h
   ·rename_i g;simp only[hw,g,cG];have g2:=g;unfold iw at g;split at g;·rename_i c;exact⟨c.1,c.2.1,c.2.2,by trivial,hs⟩
    ·exact absurd g.symm hs
   ·cases h
  ·cases h
def FX(s:ag):(cA s).2.1.length<=2000:=by
 cases h:(cA s).2.2;·rw[Sf h];simp
 ·exact(FZ h).2.2.1
def Mm{s:ag}(h:eC s=true):s.length<=20:=by unfold eC at h;simp only[aA,bz] at h;omega
def Mt{s:ag}(h:fR s=true):s.length<=60:=by unfold fR at h;simp only[aA,bz] at h;omega
def RZ{s:ag}(h:gV s=true):s.length<=60:=by unfold gV at h;simp only[aA,bz] at h;omega
def qg{α:Type}{w:α->Nat}{l:List α}{n m:Nat}(h:∀x∈l,w x<=n)(hl:l.length<=m):wL w l<=m*(n+1):=by
 suffices H:wL w l<=l.length*(n+1) from eO H (oJ _ hl)
 clear hl;induction l with
 |nil=>simp[wL]
 |cons x l ih=>have h1:=h x (bF ..);have h2:=ih λy hy=>h y (b8 _ hy);simp only[wL,cR,bD,sx,fB,Hw] at h2⊢;omega
def Sk{r:cg}(h:fP r=true):bC r<=800:=by
 have A:=F2 h;have h1:wL aN r.fields<=8*(80+1):=qg (λf hf=>by have:=Du A.f hf;have h1:=Mm this.1;have h2:=Mt this.2.1;simp only[aN];omega) (Pm A.f)
 have h2:=A.b;simp only[bC];omega
def xb{o:Ob}(h:cO o=true):aZ o<=1300:=by
 have A:=Bb h;have h1:=Sk A.resp;have h2:=RZ A.path;have hn:∀x∈o.names,x.length<=20:=by have:=A.names;unfold w6 at this;simp only[aA] at this;exact λx hx=>Mm (iX.1 this.1 x hx)
 have h3:wL wS o.names<=4*(20+1):=qg hn A.n4;have h4:wL wS o.values<=4*(60+1):=qg (λx hx=>Mt (A.vals x hx)) (by have:=A.len;have:=A.n4;omega);simp only[aZ];omega
def RI{s:ag}(h:(gU s).2=true):cO (gU s).1=true/\eY (gU s).1=s:=by have:=Sd h;refine⟨this.1,?_⟩;have h2:cO (gU s).1=true:=this.1;unfold eY;rw[ay h2];exact this.2
def RJ(s:ag):aZ (gU s).1<=1300:=by
 cases h:(gU s).2;·have:gU s=(cX,false):=Sc h;rw[this];decide
 ·exact xb (RI h).1
def Wn{b:Bn}(h:dV b=true):aV b<=120:=by
 unfold dV at h;simp only[aA,bz] at h;obtain⟨_,h⟩:=h;split at h;·simp only[aA,bz] at h;have:=RZ h.1;simp[aV,h.2];omega
 ·split at h;·simp only[aA] at h;have h1:=Mm h.1;have h2:=Mt h.2;simp only[aV];omega
  ·cases h
def Ws{b:Bn}(h:ke b≠[]):dV b=true:=by
 unfold ke at h;split at h;·assumption
 ·exact absurd rfl h
def Wp{s:ag}(h:(gu s).2=true)(hs:s≠[]):dV (gu s).1=true/\ke (gu s).1=s:=by
 unfold gu sM at h⊢;split at h
 ·split at h;·rename_i hw hg;simp only[hw,hg,cG];exact⟨Ws (by rw[hg];exact hs),trivial⟩
  ·cases h
 ·cases h
def Wo:gu []=(zB,false):=by simp[gu,sM,iY,cH,bu]
def Wq{s:ag}(h:(gu s).2=true):dV (gu s).1=true/\ke (gu s).1=s:=by refine Wp h ?_;rintro rfl;rw[Wo] at h;cases h
def tV(m n:Int):Int:=if n<100000 then max m n else m
def jE(d:bg)(i:Nat)(g:List Bn×Int)(_:Nat):(List Bn×Int) ⊕ ((List Bn×Int)×Int×Bn×Nat):=
 if (cA (cM d i)).2.2=true/\(gu (cA (cM d i)).2.1).2=true then .inl (g.1++[(gu (cA (cM d i)).2.1).1],tV g.2 (cA (cM d i)).1) else .inr (g,(cA (cM d i)).1,(gu (cA (cM d i)).2.1).1,i)
def yE{α β:Type}:α ⊕ (α×β)->α
 |.inl a=>a
 |.inr a=>a.1
def dA(d:bg):List Bn×Int:=yE (cW (jE d) 0 (List.range 5) ([],0))
noncomputable def rN(bs:List Bn)(d:bg)(i:Nat)(g:List Kp×Int)(_:Nat):List Kp×Int:=
 if (cA (cM d ((5+i:Nat):Int))).2.2=true/\(gU (cA (cM d ((5+i:Nat):Int))).2.1).2=true/\(cA (cM d ((5+i:Nat):Int))).1<100000 then
  (if o8 bs (gU (cA (cM d ((5+i:Nat):Int))).2.1).1=true then g.1 else g.1++[⟨(gU (cA (cM d ((5+i:Nat):Int))).2.1).1,((5+i:Nat):Int),(cA (cM d ((5+i:Nat):Int))).1⟩],max g.2 (cA (cM d ((5+i:Nat):Int))).1)
 else g
noncomputable def k8(bs:List Bn)(d:bg)(m:Int):List Kp×Int:=foldI (rN bs d) 0 (List.range 15) ([],m)
def n9(all:List Kp)(i:Nat)(k:Kp):Bool:=(all.drop (i+1)).any λx=>decide (x.seq=k.seq)||jJ x.obj k.obj
def nq(all:List Kp)(i:Nat)(g:List Kp×Int)(k:Kp):List Kp×Int:=if n9 all i k=true then g else (g.1++[k],w8 k.at_)
def jC:List Kp->List Kp
 |[]=>[]
 |k::l=>if (l.any λx=>decide (x.seq=k.seq)||jJ x.obj k.obj)=true then jC l else k::jC l
def FN(l:List Kp):Int:=l.getLast?.elim 5 λk=>w8 k.at_
def kC(all:List Kp):List Kp×Int:=(jC all,FN (jC all))
def AO:∀l:List Kp,List.Sublist (jC l) l
 |[]=>List.Sublist.refl _
 |k::l=>by
  unfold jC;split;·exact(AO l).trans (List.sublist_cons_self ..)
  ·exact(AO l).cons_cons k
def Q9(all:List Kp):∀(l:List Kp) (i:Nat) (g:List Kp×Int),all.drop i=l->foldI (nq all) i l g=(g.1++jC l,if jC l=[] then g.2 else FN (jC l))
 |[],i,g,_=>by simp[foldI,jC]
 |k::l,i,g,h=>by
  have hd:all.drop (i+1)=l:=by rw[<-CK,h];rfl
  rw[foldI,Q9 all l (i+1) _ hd];unfold nq n9;rw[hd];rw[show jC (k::l)=(if (l.any λx=>decide (x.seq=k.seq)||jJ x.obj k.obj)=true then jC l else k::jC l) from rfl];split;·rfl
  ·simp only[mE,TY,reduceCtorEq,cT];congr 1;cases hL:jC l with
   |nil=>simp[FN]
   |cons a L=>simp[FN]
def Q8(all:List Kp):foldI (nq all) 0 all ([],5)=kC all:=by
 rw[Q9 all all 0 _ rfl];unfold kC;simp only[eN];congr 1;split;·rename_i h;rw[h];rfl
 ·rfl
noncomputable def ji(d:bg):List Kp×Int:=k8 (dA d).1 d (dA d).2
noncomputable def gT(d:bg):List Kp:=gX Kp.seq (ji d).1
noncomputable def fh(d:bg):Sh:=⟨d,(kC (gT d)).1,(dA d).1,(kC (gT d)).2,(ji d).2+1⟩
structure uV (k:Kp):Prop where
 o:cO k.obj=true
 a:5<=k.at_/\k.at_<=19
 s:1<=k.seq/\k.seq<100000
def FG(d:bg){i:Nat}{g:List Bn×Int}(hg:(∀b∈g.1,dV b=true)/\g.1.length<=i/\0<=g.2/\g.2<100000){x:Nat}:
  (∀g',jE d i g x=.inl g'->(∀b∈g'.1,dV b=true)/\g'.1.length<=i+1/\0<=g'.2/\g'.2<100000)/\∀e,jE d i g x=.inr e->e.1=g:=by
 unfold jE;by_cases c:(cA (cM d i)).2.2=true/\(gu (cA (cM d i)).2.1).2=true
 ·rw[ay c];refine⟨λg' h=>?_,λe h=>by cases h⟩;have r:=FZ c.1;have b:=Wq c.2;cases h;refine⟨λy hy=>?_,by simp;omega,?_,?_⟩
  ·rcases gG.1 hy with hy|hy;·exact hg.1 y hy
   ·simp at hy;subst hy;exact b.1
  ·simp only[tV];split<;>omega
  ·simp only[tV];split<;>omega
 ·rw[aD c];exact⟨λg' h=>(by cases h),λe h=>(by cases h;rfl)⟩
def rK(d:bg):(∀b∈(dA d).1,dV b=true)/\(dA d).1.length<=5/\0<=(dA d).2/\(dA d).2<100000:=by
 have H:=Lw (go:=jE d) (I:=λi g=>(∀b∈g.1,dV b=true)/\g.1.length<=i/\0<=g.2/\g.2<100000) (O:=λe=>(∀b∈e.1.1,dV b=true)/\e.1.1.length<=5/\0<=e.1.2/\e.1.2<100000) 5
  (λi g b hi hg=>⟨(FG d hg).1,λe he=>by rw[(FG d hg).2 e he];exact⟨hg.1,by omega,hg.2.2⟩⟩) (List.range 5) 0 ([],0) (by simp) (by simp)
 unfold dA;cases hr:cW (jE d) 0 (List.range 5) ([],0) with
 |inl g=>exact H.1 g hr
 |inr g=>exact H.2 g hr
def PJ{β γ:Type}{go:Nat->γ->β->γ}(I:Nat->γ->Prop):∀(l:List β) (i:Nat) (g:γ),(∀j b g,i<=j->j<i+l.length->I j g->I (j+1) (go j g b))->I i g->I (i+l.length) (foldI go i l g)
 |[],i,g,_,h=>h
 |b::l,i,g,hs,h=>by rw[foldI,cR,show i+(l.length+1)=i+1+l.length by omega];exact PJ I l (i+1) _ (λj b g h1 h2 h3=>hs j b g (by omega) (by simp;omega) h3) (hs i b g (e7 _) (by simp) h)
structure sH (i:Nat) (g:List Kp×Int):Prop where
 k:∀k∈g.1,uV k
 n:g.1.length<=i
 m:0<=g.2/\g.2<100000
 q:∀k∈g.1,k.seq<=g.2
 a:∀k∈g.1,k.at_<5+i
 d:g.1.Pairwise λx y=>x.at_≠y.at_
def K3(bs:List Bn)(d:bg){i:Nat}(hi:i<15){g:List Kp×Int}(x:Nat)(h:sH i g):sH (i+1) (rN bs d i g x):=by
 unfold rN;split
 ·rename_i c;have r:=FZ c.1;have o:=RI c.2.1;have hm:=h.m;split;·exact⟨h.k,by have:=h.n;simp only;omega,by simp only;omega,λk hk=>by have:=h.q k hk;simp only;omega,λk hk=>by have:=h.a k hk;omega,h.d⟩
  ·generalize cA (cM d ((5+i:Nat):Int))=rr at*;generalize ij:((5+i:Nat):Int)=at_;refine⟨λk hk=>?_,by have:=h.n;rw[iD,List.length_singleton];omega,by constructor<;>(try dsimp only)<;>omega,λk hk=>?_,λk hk=>?_,?_⟩
   ·rcases gG.1 hk with hk|hk;·exact h.k k hk
    ·rw[fy] at hk;subst hk;exact⟨o.1,⟨by (try dsimp only);omega,by (try dsimp only);omega⟩,⟨r.1,c.2.2⟩⟩
   ·rcases gG.1 hk with hk|hk;·have:=h.q k hk;(try dsimp only);omega
    ·rw[fy] at hk;subst hk;(try dsimp only);omega
   ·rcases gG.1 hk with hk|hk;·have:=h.a k hk;omega
    ·rw[fy] at hk;subst hk;(try dsimp only);omega
   ·dsimp only;rw[uF];refine⟨h.d,TV ..,λx hx y hy=>?_⟩;rw[fy] at hy;subst hy;have:=h.a x hx;(try dsimp only)
    omega
 ·exact⟨h.k,by have:=h.n;omega,h.m,h.q,λk hk=>by have:=h.a k hk;omega,h.d⟩
def Rr(bs:List Bn)(d:bg)(m:Int)(hm:0<=m/\m<100000):sH 15 (k8 bs d m):=by have:=PJ (go:=rN bs d) sH (List.range 15) 0 ([],m) (λj b g h1 h2 h3=>K3 bs d (by simp at h2;omega) b h3) ⟨by simp,by simp,hm,by simp,by simp,by simp⟩;simpa [k8] using this
def afg(bs:List Bn)(d:bg)(m:Int)(hm:0<=m/\m<100000):(k8 bs d m).1.length<=15:=(Rr bs d m hm).n
def AX(d:bg):sH 15 (ji d):=Rr _ d _ (rK d).2.2
def Ro{d:bg}{k:Kp}:k∈gT d↔k∈(ji d).1:=(L8 Kp.seq _).mem_iff
def KZ(d:bg):(gT d).length<=15:=by unfold gT;rw[(L8 Kp.seq _).length_eq];exact(AX d).n
def FF{d:bg}{k:Kp}(h:k∈gT d):uV k/\k.seq<=(ji d).2:=⟨(AX d).k k (Ro.1 h),(AX d).q k (Ro.1 h)⟩
end M
