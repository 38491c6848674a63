/- What the functions come to in the machine; no conditions. -/
import Derived.Test.YtaaeoialiegmeaaGreatDoorTab
import Derived.Test.YtaaeoialiegmeaaGreatDoorMc
set_option linter.defProp false
set_option linter.unusedSectionVars false
set_option linter.unusedVariables false
set_option linter.unusedSimpArgs false
namespace M
open Go
end M
namespace M
open Go
@[simp] def UG(x:Int)(lo:Int)(hi:Int):ev LI TT 84 [.int .i64 x,.int .i64 lo,.int .i64 hi]=some (.bool ((decide (lo<=x/\x<=hi))),[.dead,.dead,.dead]):=by rw[az (b:=yK) (rs:=[.t 6]) (n:=3) rfl rfl];simp -implicitDefEqProofs [yK];try (by_cases h1:lo<=x<;>by_cases h2:x<=hi<;>simp[h1,h2])
@[simp] def UD(x:Int)(lo:Int)(hi:Int):ev LI TT 91 [.int .i64 x,.int .i64 lo,.int .i64 hi]=some (.bool ((decide (lo<=x/\x<=hi))),[.dead,.dead,.dead]):=by rw[az (b:=xL) (rs:=[.t 6]) (n:=3) rfl rfl];simp -implicitDefEqProofs [xL];try (by_cases h1:lo<=x<;>by_cases h2:x<=hi<;>simp[h1,h2])
def JE(s:ai)(hb:s.length<=9223372036854775807):aT (aD (ev LI TT) (aH TT) uV) [(0,.str ⟨s.toArray⟩),(3,.int .i64 0)]=if cj pM (s)=true then some (.exit 0,[(0,.str ⟨s.toArray⟩),(3,.int .i64 (s).length),(8,.bool false)]) else some (.ret,[(2,.bool false)]):=by
 refine kC (f:=aD (ev LI TT) (aH TT) uV) (s) (λi=>[(0,.str ⟨s.toArray⟩),(3,.int .i64 i)]) pM _ _ (λi b hi hl=>?_) ?_;·have hw:=cq i (by first|omega|(simp at hl;omega));obtain⟨_,rfl⟩:=br.1 hi;unfold pM;simp -implicitDefEqProofs [uV,CF,hl,hw];all_goals (repeat' split)<;>first|rfl|omega|(simp_all;done)|(simp_all;omega)|skip
 ·simp -implicitDefEqProofs [uV,CF]
def EC(s:ai)(hb:s.length<=9223372036854775807):ev LI TT 167 [.str ⟨s.toArray⟩]=some (.bool ((eY s)),[.dead]):=by
 rw[az (b:=yB) (rs:=[.t 2]) (n:=1) rfl rfl];unfold eY;have u1:=JE s hb;try simp at u1
 simp -implicitDefEqProofs [yB,u1];all_goals (repeat' split)<;>first|rfl|omega|(simp_all;done)|(simp_all;omega)|skip
def Jr(s:ai)(hb:s.length<=9223372036854775807):aT (aD (ev LI TT) (aH TT) tU) [(0,.str ⟨s.toArray⟩),(3,.int .i64 0)]=if cj pM (s)=true then some (.exit 0,[(0,.str ⟨s.toArray⟩),(3,.int .i64 (s).length),(7,.bool false)]) else some (.ret,[(2,.bool false)]):=by
 refine kC (f:=aD (ev LI TT) (aH TT) tU) (s) (λi=>[(0,.str ⟨s.toArray⟩),(3,.int .i64 i)]) pM _ _ (λi b hi hl=>?_) ?_;·have hw:=cq i (by first|omega|(simp at hl;omega));obtain⟨_,rfl⟩:=br.1 hi;unfold pM;simp -implicitDefEqProofs [tU,BK,hl,hw];all_goals (repeat' split)<;>first|rfl|omega|(simp_all;done)|(simp_all;omega)|skip
 ·simp -implicitDefEqProofs [tU,BK]
def KC(s:ai)(hb:s.length<=9223372036854775807):ev LI TT 176 [.str ⟨s.toArray⟩]=some (.bool ((eY s)),[.dead]):=by
 rw[az (b:=xF) (rs:=[.t 2]) (n:=1) rfl rfl];unfold eY;have u1:=Jr s hb;try simp at u1
 simp -implicitDefEqProofs [xF,u1];all_goals (repeat' split)<;>first|rfl|omega|(simp_all;done)|(simp_all;omega)|skip
def Js(s:ai)(lo:UInt8)(hb:s.length<=9223372036854775807):aT (aD (ev LI TT) (aH TT) tV) [(0,.str ⟨s.toArray⟩),(1,.int .u8 (lo.toNat:Int)),(5,.int .i64 0)]=if cj (gq lo.toNat) (s)=true then some (.exit 0,[(0,.str ⟨s.toArray⟩),(1,.int .u8 (lo.toNat:Int)),(5,.int .i64 (s).length),(9,.bool false)]) else some (.ret,[(4,.bool false)]):=by
 refine kC (f:=aD (ev LI TT) (aH TT) tV) (s) (λi=>[(0,.str ⟨s.toArray⟩),(1,.int .u8 (lo.toNat:Int)),(5,.int .i64 i)]) (gq lo.toNat) _ _ (λi b hi hl=>?_) ?_;·have hw:=cq i (by first|omega|(simp at hl;omega));obtain⟨_,rfl⟩:=br.1 hi;unfold gq;simp -implicitDefEqProofs [tV,BL,hl,hw];all_goals (repeat' split)<;>first|rfl|omega|(simp_all;done)|(simp_all;omega)|skip
 ·simp -implicitDefEqProofs [tV,BL]
def Er(s:ai)(lo:UInt8)(hb:s.length<=9223372036854775807):ev LI TT 188 [.str ⟨s.toArray⟩,.int .u8 (lo.toNat:Int)]=some (.bool ((cj (gq lo.toNat) s)),[.dead,.dead]):=by
 rw[az (b:=xH) (rs:=[.t 4]) (n:=2) rfl rfl];have u1:=Js s lo hb;try simp at u1
 simp -implicitDefEqProofs [xH,u1];all_goals (repeat' split)<;>first|rfl|omega|(simp_all;done)|(simp_all;omega)|skip
end M
namespace M
open Go
def dM(b:UInt8):Bool:=decide ¬(b.toNat:Int)=32
def JF(s:ai)(hb:s.length<=9223372036854775807):aT (aD (ev LI TT) (aH TT) uW) [(0,.str ⟨s.toArray⟩),(3,.int .i64 0),(4,.int .i64 s.length)]=some (.exit 0,(λ(i:Nat)=>[(0,.str ⟨s.toArray⟩),(3,.int .i64 i),(4,.int .i64 s.length),(15,.bool false)]) (cS dM (s))):=by
 refine GP (f:=aD (ev LI TT) (aH TT) uW) (s) (λi=>[(0,.str ⟨s.toArray⟩),(3,.int .i64 i),(4,.int .i64 s.length)]) dM (λ(i:Nat)=>[(0,.str ⟨s.toArray⟩),(3,.int .i64 i),(4,.int .i64 s.length),(15,.bool false)]) (λi b hi hl=>?_) ?_;·have hw:=cq i (by first|omega|(simp at hl;omega));obtain⟨_,rfl⟩:=br.1 hi;simp -implicitDefEqProofs [uW,CG,hl,hw,dM];all_goals (repeat' split)<;>first|rfl|omega|(simp_all;done)|(simp_all;omega)|skip
 ·simp -implicitDefEqProofs [uW,CG]
def JG(s:ai)(k:Nat)(hk:k<=s.length)(hb:s.length<=9223372036854775807):aT (aD (ev LI TT) (aH TT) uX) [(0,.str ⟨s.toArray⟩),(3,.int .i64 k),(4,.int .i64 ((s.length - 0:Nat):Int))]=some (.exit 2,(λ(i:Nat)=>[(0,.str ⟨s.toArray⟩),(3,.int .i64 k),(4,.int .i64 ((s.length - i:Nat):Int)),(27,.bool false)]) (cS dM ((s.drop k).reverse))):=by
 refine GP (f:=aD (ev LI TT) (aH TT) uX) ((s.drop k).reverse) (λi=>[(0,.str ⟨s.toArray⟩),(3,.int .i64 k),(4,.int .i64 ((s.length - i:Nat):Int))]) dM (λ(i:Nat)=>[(0,.str ⟨s.toArray⟩),(3,.int .i64 k),(4,.int .i64 ((s.length - i:Nat):Int)),(27,.bool false)]) (λi b hi hl=>?_) ?_
 ·have hw:=cq i (by first|omega|(simp at hl;omega));obtain⟨_,rfl⟩:=br.1 hi;simp at hl;obtain⟨m,hm⟩:∃m,s.length - i=m+1:=⟨s.length - i - 1,by omega⟩;have e1:s.length - (i+1)=m:=by omega
  have e2:IntKind.i64.wrap (m:Int)=m:=cD (by omega) (by omega);have e3:m<s.length:=by omega
  have e4:((s.drop k).reverse)[i]=s[m]:=by simp;congr 1;omega
  have e5:(k:Int)<(m:Int)+1:=by omega
  rw[e4,hm,e1];simp -implicitDefEqProofs [uX,CH,hl,hw,dM,e2,e3,e5];try (rw[bH e3];simp[e2])
  all_goals (repeat' split)<;>first|rfl|omega|(simp_all;done)|(simp_all;omega)|skip
 ·simp only[DL,DJ,show s.length - (s.length - k)=k by omega];simp -implicitDefEqProofs [uX,CH]
end M
namespace M
open Go
def zw(c:aN):∃(x:Int) (c':aN),ev LI TT 186 [.ptr .own (aJ c)]=some (.int .i64 x,[.ptr .own (aJ c')])/\0<=x/\x<=255:=by
 obtain⟨code,i,h,hi,hl⟩:=c;by_cases hlt:i<code.length
 ·have hw:=cq i (by omega);have H:∃(x h':Int),ev LI TT 186 [.ptr .own [.row .sl 1 (code.map eU),.int .i64 i,.int .i64 h]]=some (.int .i64 x,[.ptr .own [.row .sl 1 (code.map eU),.int .i64 (i+1),.int .i64 h']])/\0<=x/\x<=255:=by rw[az (b:=rJ) (rs:=[.t 2]) (n:=1) rfl rfl];simp -implicitDefEqProofs [rJ,hlt,hw,D9];omega
  obtain⟨x,h',e,b⟩:=H;exact⟨x,⟨code,i+1,h',hlt,hl⟩,e,b⟩
 ·have H:∃(x h':Int),ev LI TT 186 [.ptr .own [.row .sl 1 (code.map eU),.int .i64 i,.int .i64 h]]=some (.int .i64 x,[.ptr .own [.row .sl 1 (code.map eU),.int .i64 i,.int .i64 h']])/\0<=x/\x<=255:=by rw[az (b:=rJ) (rs:=[.t 2]) (n:=1) rfl rfl];simp -implicitDefEqProofs [rJ,hlt,D9];omega
  obtain⟨x,h',e,b⟩:=H;exact⟨x,⟨code,i,h',hi,hl⟩,e,b⟩
noncomputable def eH(c:aN):Int:=(zw c).choose
noncomputable def cL(c:aN):aN:=(zw c).choose_spec.choose
def sM(c:aN):0<=eH c/\eH c<=255:=(zw c).choose_spec.choose_spec.2
@[simp] def UF(c:aN):ev LI TT 186 [.ptr .own (aJ c)]=some (.int .i64 (eH c),[.ptr .own (aJ (cL c))]):=(zw c).choose_spec.choose_spec.1
def Ig(a n:Int)(ha:0<=a)(hn:0<n):0<=a.tmod n/\a.tmod n<n:=by rw[I6 ha];exact⟨Int.emod_nonneg _ (by omega),Int.emod_lt_of_pos _ hn⟩
def zv(c:aN)(n:Int)(hn:0<n)(hn':n<=9223372036854775807):∃(x:Int) (c':aN),ev LI TT 110 [.ptr .own (aJ c),.int .i64 n]=some (.int .i64 x,[.ptr .own (aJ c'),.dead])/\0<=x/\x<n:=by
 rw[az (b:=pG) (rs:=[.t 4]) (n:=2) rfl rfl];have h0:¬n<=0:=by omega
 have h1:¬n=0:=by omega
 by_cases h:n<=256;·refine⟨(eH c).tmod n,cL c,?_,Ig _ _ (sM c).1 hn⟩;simp -implicitDefEqProofs [pG,h,h0,h1]
 ·have b1:=sM c;have b2:=sM (cL c);have b3:=sM (cL (cL c));have b4:=sM (cL (cL (cL c)));have w1:=cD (n:=eH c*16777216) (by omega) (by omega);have w2:=cD (n:=eH (cL c)*65536) (by omega) (by omega);have w3:=cD (n:=eH (cL (cL c))*256) (by omega) (by omega);have w4:=cD (n:=eH c*16777216+eH (cL c)*65536) (by omega) (by omega);have w5:=cD (n:=eH c*16777216+eH (cL c)*65536+eH (cL (cL c))*256) (by omega) (by omega);have w6:=cD (n:=eH c*16777216+eH (cL c)*65536+eH (cL (cL c))*256+eH (cL (cL (cL c)))) (by omega) (by omega);refine⟨(eH c*16777216+eH (cL c)*65536+eH (cL (cL c))*256+eH (cL (cL (cL c)))).tmod n,cL (cL (cL (cL c))),?_,Ig _ _ (by omega) hn⟩;simp -implicitDefEqProofs [pG,h,h0,h1,w1,w2,w3,w4,w5,w6]
def TZ(c:aN)(n:Int)(hn:n<=0):ev LI TT 110 [.ptr .own (aJ c),.int .i64 n]=some (.int .i64 0,[.ptr .own (aJ c),.dead]):=by rw[az (b:=pG) (rs:=[.t 4]) (n:=2) rfl rfl];simp -implicitDefEqProofs [pG,hn]
noncomputable def gT(c:aN)(n:Int):Int:=if h:0<n/\n<=9223372036854775807 then (zv c n h.1 h.2).choose else 0
noncomputable def fE(c:aN)(n:Int):aN:=if h:0<n/\n<=9223372036854775807 then (zv c n h.1 h.2).choose_spec.choose else c
def og(c:aN)(n:Int)(h1:0<n)(h2:n<=9223372036854775807):0<=gT c n/\gT c n<n:=by unfold gT;rw[j7 ⟨h1,h2⟩];exact(zv c n h1 h2).choose_spec.choose_spec.2
def sO(c:aN)(n:Int)(h2:n<=9223372036854775807):ev LI TT 110 [.ptr .own (aJ c),.int .i64 n]=some (.int .i64 (gT c n),[.ptr .own (aJ (fE c n)),.dead]):=by
 unfold gT fE;by_cases h1:0<n;·rw[j7 ⟨h1,h2⟩,j7 ⟨h1,h2⟩];exact(zv c n h1 h2).choose_spec.choose_spec.1
 ·rw[si (λh=>h1 h.1),si (λh=>h1 h.1)];exact TZ c n (by omega)
def KW(c:aN)(n:Int)(h2:n<=9223372036854775807):ev LI TT 73 [.ptr .own (aJ c),.int .i64 n]=some (.bool (decide (gT c n=0)),[.ptr .own (aJ (fE c n)),.dead]):=by rw[az (b:=yP) (rs:=[.t 4]) (n:=2) rfl rfl];simp -implicitDefEqProofs [yP,sO c n h2];all_goals (repeat' split)<;>first|rfl|omega|(simp_all;done)|(simp_all;omega)|skip
def EE(c:aN)(l:List ai)(h1:0<l.length)(h2:l.length<=9223372036854775807):ev LI TT 151 [.ptr .own (aJ c),.row .ah 1 (l.map eS)]=some (.str ⟨(l.getD (gT c l.length).toNat []).toArray⟩,[.ptr .own (aJ (fE c l.length)),.dead]):=by
 rw[az (b:=yR) (rs:=[.t 4]) (n:=2) rfl rfl];have b:=og c l.length (by omega) (by omega);have b2:(gT c l.length).toNat<l.length:=by omega
 simp -implicitDefEqProofs [yR,sO c l.length (by omega),b,b2];all_goals (repeat' split)<;>first|rfl|omega|(simp_all;done)|(simp_all;omega)|skip
def KX(c:aN)(l:List Int)(h1:0<l.length)(h2:l.length<=9223372036854775807):ev LI TT 124 [.ptr .own (aJ c),.row .ah 1 (l.map eI)]=some (.int .i64 (l.getD (gT c l.length).toNat 0),[.ptr .own (aJ (fE c l.length)),.dead]):=by
 rw[az (b:=yQ) (rs:=[.t 4]) (n:=2) rfl rfl];have b:=og c l.length (by omega) (by omega);have b2:(gT c l.length).toNat<l.length:=by omega
 simp -implicitDefEqProofs [yQ,sO c l.length (by omega),b,b2];all_goals (repeat' split)<;>first|rfl|omega|(simp_all;done)|(simp_all;omega)|skip
def JL(code:List UInt8)(hl:code.length<=1048576)(h:Int):∃h':Int,aT (aD (ev LI TT) (aH TT) rK) [(0,.row .sl 1 (code.map eU)),(3,.int .i64 h),(4,.int .i64 0),(100000,.row .sl 1 (code.map eU))]=some (.exit 0,[(0,.row .sl 1 (code.map eU)),(3,.int .i64 h'),(4,.int .i64 (min code.length 4000:Nat)),(15,.bool false),(100000,.row .sl 1 (code.map eU))]):=by
 refine Exists.elim (Pb (f:=aD (ev LI TT) (aH TT) rK) (min code.length 4000) (λi (h:Int)=>[(0,.row .sl 1 (code.map eU)),(3,.int .i64 h),(4,.int .i64 i),(100000,.row .sl 1 (code.map eU))]) (λ_ _=>True) (λh'=>[(0,.row .sl 1 (code.map eU)),(3,.int .i64 h'),(4,.int .i64 (min code.length 4000:Nat)),(15,.bool false),(100000,.row .sl 1 (code.map eU))]) h trivial (λi g hi _=>?_) (λg _=>?_)) λg h=>⟨g,h.2⟩
 ·have h1:i<code.length:=by omega
  have h2:(i:Int)<4000:=by omega
  have hw:=cq i (by omega);simp -implicitDefEqProofs [rK,yN,h1,h2,hw]
 ·by_cases h1:code.length<=4000
  ·have:min code.length 4000=code.length:=by omega
   rw[this];simp -implicitDefEqProofs [rK,yN]
  ·have:min code.length 4000=4000:=by omega
   rw[this];have h2:4000<code.length:=by omega
   have h3:(4000:Int)<code.length:=by omega
   simp -implicitDefEqProofs [rK,yN,h2,h3]
def IJ(code:List UInt8)(hl:code.length<=1048576):∃c:aN,ev LI TT 54 [.row .sl 1 (code.map eU)]=some (.ptr .own (aJ c),[.dead]):=by have hw:=cD (n:=18850+code.length) (by omega) (by omega);obtain⟨h',e⟩:=JL code hl (18850+code.length);refine⟨⟨code,0,h',pS _,by omega⟩,?_⟩;rw[az (b:=yO) (rs:=[.t 2]) (n:=1) rfl rfl];simp -implicitDefEqProofs [yO,hw,e,aJ,um]
end M
namespace M
open Go
def GZ(b:UInt8):dM b=true↔b≠32:=by
 unfold dM
 have:((b.toNat:Int)=32)↔b=32:=by
  constructor;·intro h;exact UInt8.toNat_inj.1 (by have e:(32:UInt8).toNat=32:=rfl;omega)
  ·rintro rfl;rfl
 simp[this]
def Ij(s:ai):Lib.trimLeftB s 32=s.drop (cS dM s):=by
 refine Lib.trimLeftB_drop s 32 _ (zn _ _) (λj b hj hb=>?_) λb hb=>(GZ b).1 (Ir _ _ _ hb);have:=Is _ _ _ _ hj hb;by_cases h:b=32;·exact h
 ·rw[(GZ b).2 h] at this;cases this
def TF(s:ai):Lib.trimRightB s 32=s.take (s.length - cS dM s.reverse):=by have h:=Ij s.reverse;unfold Lib.trimLeftB at h;unfold Lib.trimRightB;rw[h,List.drop_reverse,Dk]
def TG(s:ai):(s.drop (cS dM s)).take (s.length - cS dM (s.drop (cS dM s)).reverse - cS dM s)=dH s:=by rw[TI,Ij,TF,DJ];congr 1;omega
def As(s:ai)(hb:s.length<=9223372036854775807):ev LI TT 170 [.str ⟨s.toArray⟩]=some (.str ⟨(dH s).toArray⟩,[.dead]):=by
 rw[az (b:=yC) (rs:=[.t 2]) (n:=1) rfl rfl];have h1:=zn dM s;have h2:=zn dM (s.drop (cS dM s)).reverse;simp only[DL,DJ] at h2;have h3:=TG s;have u1:=JF s hb;try simp at u1
 have u2:=JG s (cS dM s) (zn _ _) hb;try simp at u2
 simp -implicitDefEqProofs [yC,u1,u2,(by omega:(cS dM s:Int)<=((s.length - cS dM (s.drop (cS dM s)).reverse:Nat):Int)),(by omega:((s.length - cS dM (s.drop (cS dM s)).reverse:Nat):Int)<=s.length),Lib.extract_mk,h3];all_goals (repeat' split)<;>first|rfl|omega|(simp_all;done)|(simp_all;omega)|skip
def Ep(s:ai)(hb:s.length<=9223372036854775807):ev LI TT 189 [.str ⟨s.toArray⟩]=some (.str ⟨(dH s).toArray⟩,[.dead]):=by
 rw[az (b:=xG) (rs:=[.t 2]) (n:=1) rfl rfl];have u1:=K7 s hb;try simp at u1
 simp -implicitDefEqProofs [xG,u1];all_goals (repeat' split)<;>first|rfl|omega|(simp_all;done)|(simp_all;omega)|skip
def JH(s:ai)(hb:s.length<=9223372036854775807):aT (aD (ev LI TT) (aH TT) uY) [(0,.str ⟨s.toArray⟩),(3,.int .i64 0)]=if cj (gq 32) (s)=true then some (.exit 0,[(0,.str ⟨s.toArray⟩),(3,.int .i64 (s).length),(7,.bool false)]) else some (.ret,[(2,.bool false)]):=by
 refine kC (f:=aD (ev LI TT) (aH TT) uY) (s) (λi=>[(0,.str ⟨s.toArray⟩),(3,.int .i64 i)]) (gq 32) _ _ (λi b hi hl=>?_) ?_;·have hw:=cq i (by first|omega|(simp at hl;omega));obtain⟨_,rfl⟩:=br.1 hi;unfold gq;simp -implicitDefEqProofs [uY,CI,hl,hw];all_goals (repeat' split)<;>first|rfl|omega|(simp_all;done)|(simp_all;omega)|skip
 ·simp -implicitDefEqProofs [uY,CI]
def ED(s:ai)(hb:s.length<=9223372036854775807):ev LI TT 88 [.str ⟨s.toArray⟩]=some (.bool ((eZ s)),[.dead]):=by
 rw[az (b:=pF) (rs:=[.t 2]) (n:=1) rfl rfl];unfold eZ;have u1:=JH s hb;try simp at u1
 have u2:=As s hb;try simp at u2
 by_cases g1:cj (gq 32) s=true;rotate_left;·simp -implicitDefEqProofs [pF,u1,u2,g1]
 by_cases g2:1<=(s.length:Int);rotate_left;·simp -implicitDefEqProofs [pF,u1,u2,g1,eq_false g2]
 by_cases g3:(s.length:Int)<=60;rotate_left;·simp -implicitDefEqProofs [pF,u1,u2,g1,eq_true g2,eq_false g3]
 simp -implicitDefEqProofs [pF,u1,u2,g1,eq_true g2,eq_true g3];all_goals (repeat' split)<;>first|rfl|omega|(simp_all;done)|(simp_all;omega)|skip
def KD(s:ai)(hb:s.length<=9223372036854775807):ev LI TT 114 [.str ⟨s.toArray⟩]=some (.bool ((eZ s)),[.dead]):=by
 rw[az (b:=oM) (rs:=[.t 2]) (n:=1) rfl rfl];unfold eZ;have Vq:(32:UInt8).toNat=32:=rfl;have u1:=Er s 32 hb;try simp at u1
 have u2:=Ep s hb;try simp at u2
 by_cases g1:1<=(s.length:Int);rotate_left;·simp -implicitDefEqProofs [oM,u1,u2,eq_false g1]
 by_cases g2:(s.length:Int)<=60;rotate_left;·simp -implicitDefEqProofs [oM,u1,u2,eq_true g1,eq_false g2]
 by_cases g3:cj (gq 32) s=true;rotate_left;·simp -implicitDefEqProofs [oM,u1,u2,eq_true g1,eq_true g2,g3]
 simp -implicitDefEqProofs [oM,u1,u2,eq_true g1,eq_true g2,g3];all_goals (repeat' split)<;>first|rfl|omega|(simp_all;done)|(simp_all;omega)|skip
def JN(s:ai)(hb:s.length<=9223372036854775807):aT (aD (ev LI TT) (aH TT) vk) [(0,.str ⟨s.toArray⟩),(3,.int .i64 0)]=if cj (gq 33) (s)=true then some (.exit 0,[(0,.str ⟨s.toArray⟩),(3,.int .i64 (s).length),(7,.bool false)]) else some (.ret,[(2,.bool false)]):=by
 refine kC (f:=aD (ev LI TT) (aH TT) vk) (s) (λi=>[(0,.str ⟨s.toArray⟩),(3,.int .i64 i)]) (gq 33) _ _ (λi b hi hl=>?_) ?_;·have hw:=cq i (by first|omega|(simp at hl;omega));obtain⟨_,rfl⟩:=br.1 hi;unfold gq;simp -implicitDefEqProofs [vk,CP,hl,hw];all_goals (repeat' split)<;>first|rfl|omega|(simp_all;done)|(simp_all;omega)|skip
 ·simp -implicitDefEqProofs [vk,CP]
def EF(s:ai)(hb:s.length<=9223372036854775807):ev LI TT 83 [.str ⟨s.toArray⟩]=some (.bool ((iR s)),[.dead]):=by
 rw[az (b:=pI) (rs:=[.t 2]) (n:=1) rfl rfl];unfold iR;have u1:=JN s hb;try simp at u1
 by_cases g1:cj (gq 33) s=true;rotate_left;·simp -implicitDefEqProofs [pI,u1,g1]
 by_cases g2:1<=(s.length:Int);rotate_left;·simp -implicitDefEqProofs [pI,u1,g1,eq_false g2]
 by_cases g3:(s.length:Int)<=60;rotate_left;·simp -implicitDefEqProofs [pI,u1,g1,eq_true g2,eq_false g3]
 obtain⟨b,hb0⟩:∃b,s[0]?=some b:=⟨s[0]'(by omega),by simp⟩;simp -implicitDefEqProofs [pI,u1,g1,eq_true g2,eq_true g3,hb0];all_goals (repeat' split)<;>first|rfl|omega|(simp_all;done)|(simp_all;omega)|skip
def KG(s:ai)(hb:s.length<=9223372036854775807):ev LI TT 115 [.str ⟨s.toArray⟩]=some (.bool ((iR s)),[.dead]):=by
 rw[az (b:=qN) (rs:=[.t 2]) (n:=1) rfl rfl];unfold iR;have Vr:(33:UInt8).toNat=33:=rfl;have u1:=Er s 33 hb;try simp at u1
 by_cases g1:1<=(s.length:Int);rotate_left;·simp -implicitDefEqProofs [qN,u1,eq_false g1]
 by_cases g2:(s.length:Int)<=60;rotate_left;·simp -implicitDefEqProofs [qN,u1,eq_true g1,eq_false g2]
 obtain⟨b,hb0⟩:∃b,s[0]?=some b:=⟨s[0]'(by omega),by simp⟩;by_cases NI:(b.toNat:Int)=47;all_goals
 simp -implicitDefEqProofs [qN,u1,eq_true g1,eq_true g2,hb0,NI];all_goals (repeat' split)<;>first|rfl|omega|(simp_all;done)|(simp_all;omega)|skip
def Kw(n:Int):ev LI TT 61 [.int .i64 n]=some (.str ⟨(bG n).toArray⟩,[.dead]):=by
 rw[az (b:=tR) (rs:=[.t 2]) (n:=1) rfl rfl];unfold bG;by_cases hn:0<=n/\n<=1000000;rotate_left
 ·have hf:(decide (0<=n) && decide (n<=1000000))=false:=by simp;omega
  simp -implicitDefEqProofs [tR,hn,hf]
 obtain⟨k,rfl⟩:∃k:Nat,n=k:=⟨n.toNat,by omega⟩;have u1:=Av k (by omega);try simp at u1
 simp -implicitDefEqProofs [tR,u1,hn];all_goals (repeat' split)<;>first|rfl|omega|(simp_all;done)|(simp_all;omega)|skip
end M
namespace M
open Go
def Jx(s:ai)(hb:s.length<=1073741824):aT (aD (ev LI TT) (aH TT) o6) [(0,.str ⟨s.toArray⟩),(3,.row .own 1 (([]).map eU)),(4,.int .i64 0)]=some (.exit 0,[(0,.str ⟨s.toArray⟩),(3,.row .own 1 ((((s).flatMap (λb=>[jQ b]))).map eU)),(4,.int .i64 (s).length),(10,.bool false)]):=by
 refine ud (f:=aD (ev LI TT) (aH TT) o6) (s) (λb=>[jQ b]) (λi out=>[(0,.str ⟨s.toArray⟩),(3,.row .own 1 ((out).map eU)),(4,.int .i64 i)]) (λout=>[(0,.str ⟨s.toArray⟩),(3,.row .own 1 ((out).map eU)),(4,.int .i64 (s).length),(10,.bool false)]) (λi b out hi hl hout=>?_) (λout hout=>?_)
 ·have hw:=cq i (by first|omega|(simp at hl;omega));obtain⟨_,rfl⟩:=br.1 hi;have hlo:out.length=i:=by rw[hout];exact FA _ _ _ (by omega)
  have hx:=s[i].toNat_lt;unfold jQ;by_cases h1:65<=(s[i]).toNat;rotate_left
  ·have h1':¬(65:Int)<=(s[i]).toNat:=by omega
   simp -implicitDefEqProofs [o6,uO,hl,hw,h1,h1',hlo,cl];omega
  by_cases h2:(s[i]).toNat<=90;rotate_left
  ·have h1':(65:Int)<=(s[i]).toNat:=by omega
   have oy:¬((s[i]).toNat:Int)<=90:=by omega
   have Bc:90<((s[i]).toNat:Int):=by omega
   simp -implicitDefEqProofs [o6,uO,hl,hw,h1,h1',h2,oy,Bc,hlo,cl];omega
  have h1':(65:Int)<=(s[i]).toNat:=by omega
  have oy:((s[i]).toNat:Int)<=90:=by omega
  have h3:=GQ s[i] ⟨h1,h2⟩;have h4:IntKind.u8.wrap ((s[i]).toNat+32)=(s[i]).toNat+32:=IF (by omega) (by omega);simp -implicitDefEqProofs [o6,uO,hl,hw,h1,h1',h2,oy,hlo,cl,h3,h4];omega
 ·simp -implicitDefEqProofs [o6,uO]
def Ey(s:ai)(hb:s.length<=1073741824):ev LI TT 169 [.str ⟨s.toArray⟩]=some (.str ⟨(bz s).toArray⟩,[.dead]):=by
 rw[az (b:=yw) (rs:=[.t 2]) (n:=1) rfl rfl];have hl:(bz s).length=s.length:=by simp[bz]
 have e:s.flatMap (λb=>[jQ b])=bz s:=A4 jQ s;have u1:=Jx s hb;try simp at u1
 simp -implicitDefEqProofs [yw,u1,e,hl,rowAt,(by omega:s.length<=9223372036854775807)];all_goals (repeat' split)<;>first|rfl|omega|(simp_all;done)|(simp_all;omega)|skip
def Rs(s:ai)(i:Nat)(h:i<s.length)(x:UInt8)(hx:x=jQ s[i]):(bz (s.take i)++s.drop i).set i x=bz (s.take (i+1))++s.drop (i+1):=by
 subst hx;rw[Dl _ _ (by simp[bz];omega),su h];have:i - (bz (s.take i)).length=0:=by simp[bz];omega
 rw[this,r8 h];simp only[Dm,bz,jb,aS,jA,nV,gN,pP]
def HO(s:ai)(i:Nat)(h:i<s.length)(hx:jQ s[i]=s[i]):bz (s.take i)++s.drop i=bz (s.take (i+1))++s.drop (i+1):=by rw[r8 h,su h];simp only[bz,hx,jb,aS,jA,nV,gN,pP]
def Ls(l:ai)(i:Nat)(x:Int)(b:UInt8)(hx:x=(b.toNat:Int)):(l.map eU).modify i (λe=>e.set 0 (X.int .u8 x))=(l.set i b).map eU:=by
 subst hx;apply gy;intro j;rw[vN,cg,cg,zP];by_cases h:i=j
 ·subst h;by_cases h2:i<l.length;·simp[h2]
  ·simp[h2,iz (Nat.le_of_not_lt h2)]
 ·simp only[h,iZ];cases l[j]?<;>rfl
def Jo(s:ai)(hb:s.length<=1073741824):aT (aD (ev LI TT) (aH TT) oK) [(3,.row .own 1 ((bz (s.take 0)++s.drop 0).map eU)),(6,.str ⟨s.toArray⟩),(8,.ref 3 []),(9,.int .i64 s.length),(10,.int .i64 0)]=some (.exit 0,[(3,.row .own 1 ((bz s).map eU)),(6,.str ⟨s.toArray⟩),(8,.ref 3 []),(9,.int .i64 s.length),(10,.int .i64 (s).length),(11,.bool false)]):=by
 refine GO (f:=aD (ev LI TT) (aH TT) oK) (s) (λi=>[(3,.row .own 1 ((bz (s.take i)++s.drop i).map eU)),(6,.str ⟨s.toArray⟩),(8,.ref 3 []),(9,.int .i64 s.length),(10,.int .i64 i)]) _ (λi b hi hl=>?_) ?_
 ·have hw:=cq i (by first|omega|(simp at hl;omega));obtain⟨_,rfl⟩:=br.1 hi;have hk:(bz (s.take i)++s.drop i).length=s.length:=by simp[bz];omega
  have hx:=s[i].toNat_lt;have hg:(bz (s.take i)++s.drop i)[i]?=some s[i]:=by rw[jy (by simp[bz];omega)];simp[bz,jZ (Nat.le_of_lt hl)]
  have hg':∀h,(bz (s.take i)++s.drop i)[i]'h=s[i]:=λh=>by rw[bH h] at hg;exact e8 hg
  generalize hq:bz (s.take i)++s.drop i=q at hk hg hg'⊢;have oB:i<q.length:=by omega
  by_cases h1:65<=(s[i]).toNat;rotate_left
  ·have h1':¬(65:Int)<=(s[i]).toNat:=by omega
   have e:=HO s i hl (by unfold jQ;rw[aC (by omega)]);rw[hq] at e;simp -implicitDefEqProofs [oK,tQ,hl,hw,hg,hg',oB,h1',<-e]
  by_cases h2:(s[i]).toNat<=90;rotate_left
  ·have h1':(65:Int)<=(s[i]).toNat:=by omega
   have Bc:90<((s[i]).toNat:Int):=by omega
   have oy:¬((s[i]).toNat:Int)<=90:=by omega
   have e:=HO s i hl (by unfold jQ;rw[aC (by omega)]);rw[hq] at e;simp -implicitDefEqProofs [oK,tQ,hl,hw,hg,hg',oB,h1',oy,Bc,<-e]
  have h1':(65:Int)<=(s[i]).toNat:=by omega
  have oy:((s[i]).toNat:Int)<=90:=by omega
  have h3:=GQ s[i] ⟨h1,h2⟩;have h4:IntKind.u8.wrap ((s[i]).toNat+32)=(s[i]).toNat+32:=IF (by omega) (by omega);have e:=Rs s i hl (s[i]+32) (by unfold jQ;rw[aA ⟨h1,h2⟩]);rw[hq] at e;have e2:=Ls q i _ (s[i]+32) (show ((s[i]).toNat:Int)+32=_ by rw[h3];rfl);rw[e] at e2;simp -implicitDefEqProofs [oK,tQ,hl,hw,hg,hg',oB,h1',oy,h4,e2];all_goals (repeat' split)<;>first|rfl|omega|(simp_all;done)|(simp_all;omega)|skip
 ·simp only[r7,List.drop_length,nW];simp -implicitDefEqProofs [oK,tQ]
def Kv(s:ai)(hb:s.length<=1073741824):ev LI TT 191 [.str ⟨s.toArray⟩]=some (.str ⟨(bz s).toArray⟩,[.dead]):=by
 rw[az (b:=xA) (rs:=[.t 2]) (n:=1) rfl rfl];have hl:(bz s).length=s.length:=by simp[bz]
 have e0:bz (s.take 0)++s.drop 0=s:=by simp[bz]
 have u1:=Jo s hb;try simp at u1
 simp -implicitDefEqProofs [xA,u1,hl,rowAt,(by omega:s.length<=9223372036854775807)];all_goals (repeat' split)<;>first|rfl|omega|(simp_all;done)|(simp_all;omega)|skip
@[simp] def UI(x:Int)(y:Int):ev LI TT 227 [.int .i64 x,.int .i64 y]=some (.int .i64 ((if x<y then x else y)),[.dead,.dead]):=by rw[az (b:=yM) (rs:=[.t 4]) (n:=2) rfl rfl];simp -implicitDefEqProofs [yM];all_goals (repeat' split)<;>first|rfl|omega|(simp_all;done)|(simp_all;omega)|skip
@[simp] def UH(x:Int)(y:Int):ev LI TT 135 [.int .i64 x,.int .i64 y]=some (.int .i64 ((if y<x then x else y)),[.dead,.dead]):=by rw[az (b:=yL) (rs:=[.t 4]) (n:=2) rfl rfl];simp -implicitDefEqProofs [yL];all_goals (repeat' split)<;>first|rfl|omega|(simp_all;done)|(simp_all;omega)|skip
@[simp] def UE(n:Int):ev LI TT 175 [.int .i64 n]=some (.int .i64 ((max 0 (min n 1000000))),[.dead]):=by rw[az (b:=xP) (rs:=[.t 2]) (n:=1) rfl rfl];simp -implicitDefEqProofs [xP];(repeat' split)<;>omega
end M
namespace M
open Go
def JA(n:Nat)(out:ai)(hn:out.length+n<=9223372036854775807):aT (aD (ev LI TT) (aH TT) CD) [(0,.int .i64 n),(3,.str ⟨out.toArray⟩)]=some (.exit 0,[(0,.int .i64 0),(3,.str ⟨(oQ n out).toArray⟩),(10,.bool false)]):=by
 have hs:∀s,aD (ev LI TT) (aH TT) CD s=aD (ev LI TT) (aH TT) yx s:=λ_=>rfl;induction n using Nat.strongRecOn generalizing out with
 |ind n ih=>
  rw[dS,hs];unfold oQ;by_cases h:n=0;·subst h;simp -implicitDefEqProofs [yx]
  ·have hp:0<n:=by omega
   have:=ih (n / 10) (by omega) (UInt8.ofNat (48+n%10)::out) (by rw[cw];omega);have e1:((n:Int)).tmod 10=((n%10:Nat):Int):=by rw[I6 (by omega)];omega
   have e4:((n:Int)).tdiv 10=((n / 10:Nat):Int):=by rw[Int.tdiv_eq_ediv_of_nonneg (by omega)];omega
   have e2:IntKind.i64.wrap (48+((n%10:Nat):Int))=((48+n%10:Nat):Int):=by rw[cD (by omega) (by omega)];omega
   have e3:IntKind.u8.wrap ((48+n%10:Nat):Int)=((48+n%10:Nat):Int):=IG (by omega) (by omega);have e5:=TL (48+n%10) (by omega);have e6:IntKind.i64.wrap ((n / 10:Nat):Int)=((n / 10:Nat):Int):=cD (by omega) (by omega);simp only[h,dite_false];rw[<-this];simp -implicitDefEqProofs [yx,hp,b7,e1,e2,e3,e4,e5,e6,-Int.natCast_emod,-Int.natCast_ediv,-Int.natCast_add,-UInt8.ofNat_add,kT,(by omega:1+out.length<=9223372036854775807)]
def qc(n:Int):ev LI TT 66 [.int .i64 n]=some (.str ⟨(bG n).toArray⟩,[.dead]):=by
 rw[az (b:=rB) (rs:=[.t 2]) (n:=1) rfl rfl];unfold bG;by_cases hn:0<=n/\n<=1000000;rotate_left
 ·have hf:(decide (0<=n) && decide (n<=1000000))=false:=by simp;omega
  simp -implicitDefEqProofs [rB,hn,hf]
 obtain⟨k,rfl⟩:∃k:Nat,n=k:=⟨n.toNat,by omega⟩;by_cases h:k=0;·subst h;simp -implicitDefEqProofs [rB,AK]
 have h1:=JA k [] (by simp;omega);rw[Pk k [] h,nW] at h1;simp -implicitDefEqProofs [rB,hn,h,h1];all_goals (repeat' split)<;>first|rfl|omega|(simp_all;done)|(simp_all;omega)|skip
def uz(n:Int):(bG n).length<=7:=by
 unfold bG;split;·exact ql _ (by omega)
 ·simp
def Jy(s:ai)(hb:s.length<=7)(hd:cj eT s=true)(g:Nat)(hinv:g<10^0):aT (aD (ev LI TT) (aH TT) jV) [(0,.str ⟨s.toArray⟩),(4,.int .i64 (g:Nat)),(5,.int .i64 0)]=some (.exit 0,[(0,.str ⟨s.toArray⟩),(4,.int .i64 ((foldI (λ_ g b=>10*g+b.toNat - 48) 0 (s) g):Nat)),(5,.int .i64 (s).length),(16,.bool false)]):=by
 refine xX (f:=aD (ev LI TT) (aH TT) jV) (s) (λi (g:Nat)=>[(0,.str ⟨s.toArray⟩),(4,.int .i64 (g:Nat)),(5,.int .i64 i)]) (λ_ g b=>10*g+b.toNat - 48) (λg=>[(0,.str ⟨s.toArray⟩),(4,.int .i64 (g:Nat)),(5,.int .i64 (s).length),(16,.bool false)]) (λi (g:Nat)=>g<10^i) g hinv (λi b g hi hl hinv=>?_) (λi b g hi hinv=>?_) (λg hinv=>?_)
 ·have hw:=cq i (by first|omega|(simp at hl;omega));obtain⟨_,rfl⟩:=br.1 hi;have hx:=iB.1 hd s[i] (dy hl);simp only[eT,aP] at hx;have hp:10^i<=10^6:=I5 (by omega) (by omega);have h1:¬((s[i]).toNat:Int)<48:=by omega
  have h2:¬57<((s[i]).toNat:Int):=by omega
  have e1:IntKind.i64.wrap (10*(g:Int))=10*g:=cD (by omega) (by omega);have e0:IntKind.i64.wrap ((s[i]).toNat:Int)=(s[i]).toNat:=cD (by omega) (by omega);have e2:IntKind.i64.wrap (10*(g:Int)+(s[i]).toNat)=10*g+(s[i]).toNat:=cD (by omega) (by omega);have e3:IntKind.i64.wrap (10*(g:Int)+(s[i]).toNat - 48)=((10*g+(s[i]).toNat - 48:Nat):Int):=by rw[cD (by omega) (by omega)];omega
  simp -implicitDefEqProofs [jV,pq,hl,hw,h1,h2,e0,e1,e2,e3]
 ·obtain⟨hl,rfl⟩:=br.1 hi;have hx:=iB.1 hd s[i] (dy hl);simp only[eT,aP] at hx;rw[zC];omega
 ·simp -implicitDefEqProofs [jV,pq]
def Jz(s:ai)(hb:s.length<=7)(hd:¬cj eT s=true):aT (aD (ev LI TT) (aH TT) jV) [(0,.str ⟨s.toArray⟩),(4,.int .i64 0),(5,.int .i64 0)]=some (.ret,[(2,.int .i64 0),(3,.bool false)]):=by
 have key:=B6 (xt:=0) (f:=aD (ev LI TT) (aH TT) jV) s (λi (g:Nat)=>[(0,.str ⟨s.toArray⟩),(4,.int .i64 (g:Int)),(5,.int .i64 i)]) (λb g=>if eT b=true then .inl (10*g+b.toNat - 48) else .inr (.ret,[(2,.int .i64 0),(3,.bool false)])) (λg=>[(0,.str ⟨s.toArray⟩),(4,.int .i64 (g:Int)),(5,.int .i64 s.length),(16,.bool false)]) (λi g=>g<10^i) 0 (by decide) (λi b g hi hl hinv=>?_) (λi b g g' hi hinv hg=>?_) (λg hg=>?_)
 ·have hr:∀(r:ai) (g:Nat),¬cj eT r=true->kM (λ(b:UInt8) (g:Nat)=>if eT b=true then (.inl (10*g+b.toNat - 48):Nat ⊕ (Ex×af)) else .inr (.ret,[(2,.int .i64 0),(3,.bool false)])) r g=.inr (.ret,[(2,.int .i64 0),(3,.bool false)]):=by
   intro r;induction r with
   |nil=>intro g h;exact absurd rfl h
   |cons b r ih=>
    intro g h;simp only[kM];by_cases hb:eT b=true;·simp only[hb,cU];exact ih _ λh'=>h (by rw[iB] at h'⊢;intro x hx;rcases bA.1 hx with rfl|hx;exact hb;exact h' x hx)
    ·simp[hb]
  rw[hr s 0 hd] at key;simpa [lv] using key
 ·have hw:=cq i (by omega);obtain⟨_,rfl⟩:=br.1 hi;by_cases h:eT s[i]=true
  ·have hx:=h;simp only[eT,aP] at hx;have hp:10^i<=10^6:=I5 (by omega) (by omega);have h1:¬((s[i]).toNat:Int)<48:=by omega
   have h2:¬57<((s[i]).toNat:Int):=by omega
   have e1:IntKind.i64.wrap (10*(g:Int))=10*g:=cD (by omega) (by omega);have e0:IntKind.i64.wrap ((s[i]).toNat:Int)=(s[i]).toNat:=cD (by omega) (by omega);have e2:IntKind.i64.wrap (10*(g:Int)+(s[i]).toNat)=10*g+(s[i]).toNat:=cD (by omega) (by omega);have e3:IntKind.i64.wrap (10*(g:Int)+(s[i]).toNat - 48)=((10*g+(s[i]).toNat - 48:Nat):Int):=by rw[cD (by omega) (by omega)];omega
   simp -implicitDefEqProofs [jV,pq,hl,hw,h,h1,h2,e0,e1,e2,e3]
  ·have hx:=h;simp only[eT,aP] at hx;by_cases h1:((s[i]).toNat:Int)<48;·simp -implicitDefEqProofs [jV,pq,hl,hw,h,h1,lv]
   ·have h2:57<((s[i]).toNat:Int):=by omega
    simp -implicitDefEqProofs [jV,pq,hl,hw,h,h1,h2,lv]
 ·obtain⟨hl,rfl⟩:=br.1 hi;split at hg
  ·rename_i hx;simp only[eT,aP] at hx;injection hg with hg
   rw[zC];omega
  ·cases hg
 ·simp -implicitDefEqProofs [jV,pq]
def FG{β γ:Type}(go:γ->β->γ):∀(l:List β) (i:Nat) (g:γ),foldI (λ_ g b=>go g b) i l g=l.foldl go g
 |[],_,_=>rfl
 |b::l,i,g=>by rw[foldI,FG go l,zN]
def Ez(s:ai)(hb:s.length<=9223372036854775807):ev LI TT 162 [.str ⟨s.toArray⟩]=some (.aq [.int .i64 ((((b9 s).getD 0:Nat):Int)),.bool ((b9 s).isSome)],[.dead]):=by
 rw[az (b:=nI) (rs:=[.t 2,.t 3]) (n:=1) rfl rfl];by_cases h7:7<s.length
 ·have td:7<(s.length:Int):=by omega
  have hn:¬s=[]:=by rintro rfl;simp at h7
  simp -implicitDefEqProofs [nI,G0 s h7,td,hn]
 have td:¬7<(s.length:Int):=by omega
 rw[PR s (by omega)];by_cases h0:s=[];·subst h0;simp -implicitDefEqProofs [nI]
 by_cases hd:cj eT s=true;rotate_left;·have u1:=Jz s (by omega) hd;simp -implicitDefEqProofs [nI,td,h0,hd,u1]
 have u1:=Jy s (by omega) hd 0 (by decide);rw[show foldI (λ_ (g:Nat) (b:UInt8)=>10*g+b.toNat - 48) 0 s 0=iw s from FG _ s 0 0] at u1;simp only[Int.ofNat_zero] at u1;have u2:=qc (iw s);by_cases ht:bG (iw s)=s;rotate_left;·simp -implicitDefEqProofs [nI,td,h0,hd,u1,u2,eq_false ht]
 simp -implicitDefEqProofs [nI,td,h0,hd,u1,u2,eq_true ht];all_goals (repeat' split)<;>first|rfl|omega|(simp_all;done)|(simp_all;omega)|skip
end M
namespace M
open Go
def gp(w:ai):List ai:=if dH w≠[] then [dH w] else []
def QL(s:ai)(i:Nat)(h:i<(s.map some++[none]).length):(∃hi:i<s.length,(s.map some++[none])[i]=some s[i])\/(i=s.length/\(s.map some++[none])[i]=none):=by
 by_cases hi:i<s.length;·refine .inl ⟨hi,?_⟩;rw[List.getElem_append_left (by simpa using hi)];simp
 ·simp at h;obtain rfl:i=s.length:=by omega
  refine .inr ⟨rfl,?_⟩;rw[List.getElem_append_right (by simp)];simp
def HS(w:ai):(gp w).length<=1:=by unfold gp;split<;>simp
def NC(c:UInt8)(f:ai->List ai)(hf:∀w,(f w).length<=1)(s:ai)(i:Nat)(g:List ai×Nat)(b:Option UInt8)(h:g.2<=i/\g.1.length<=i):(fX c f s i g b).2<=i+1/\(fX c f s i g b).1.length<=i+1:=by
 unfold fX;have:=hf ((s.take i).drop g.2);split
 ·split;·simp;omega
  ·omega
 ·simp;omega
def JD(s:ai)(hb:s.length<=1073741824)(g:List ai×Nat)(hinv:g.2<=0/\g.1.length<=0):aT (aD (ev LI TT) (aH TT) lV) [(0,.str ⟨s.toArray⟩),(3,.row .own 1 ((g).1.map eS)),(4,.int .i64 ((g).2:Nat)),(5,.int .i64 0)]=some (.exit 0,[(0,.str ⟨s.toArray⟩),(3,.row .own 1 (((foldI (fX 44 gp s) 0 (s.map some++[none]) g)).1.map eS)),(4,.int .i64 (((foldI (fX 44 gp s) 0 (s.map some++[none]) g)).2:Nat)),(5,.int .i64 (s.map some++[none]).length),(11,.bool false)]):=by
 refine xX (f:=aD (ev LI TT) (aH TT) lV) (s.map some++[none]) (λi (g:List ai×Nat)=>[(0,.str ⟨s.toArray⟩),(3,.row .own 1 ((g).1.map eS)),(4,.int .i64 ((g).2:Nat)),(5,.int .i64 i)]) (fX 44 gp s) (λg=>[(0,.str ⟨s.toArray⟩),(3,.row .own 1 ((g).1.map eS)),(4,.int .i64 ((g).2:Nat)),(5,.int .i64 (s.map some++[none]).length),(11,.bool false)]) (λi (g:List ai×Nat)=>g.2<=i/\g.1.length<=i) g hinv (λi b g hi hl hinv=>?_) (λi b g hi hinv=>?_) (λg hinv=>?_)
 ·have hw:=cq i (by first|omega|(simp at hl;omega));obtain⟨_,rfl⟩:=br.1 hi;have hlz:(g.1.length+1)*16<=140737488355328:=by simp at hl;omega
  have F1:∀b:UInt8,((b.toNat:Int)=44)↔b=44:=λb=>⟨λh=>UInt8.toNat_inj.1 (by have e:(44:UInt8).toNat=44:=rfl;omega),λh=>by subst h;rfl⟩;rcases QL s i hl with ⟨hi',e⟩|⟨rfl,e⟩
  ·rw[e];have k1:(i:Int)<=s.length:=by omega
   have k2:i<=s.length:=by omega
   have hc:=As ((s.drop g.2).take (i - g.2)) (by simp;omega);by_cases hx:s[i]=44;rotate_left;·have hx':=mt (F1 s[i]).1 hx;simp -implicitDefEqProofs [lV,pE,k1,k2,hi',hw,fX,hx,hx']
   have hx':=(F1 s[i]).2 hx;have e3:(s.take i).drop g.2=(s.drop g.2).take (i - g.2):=List.drop_take ..;by_cases ht:dH ((s.drop g.2).take (i - g.2))=[];·simp -implicitDefEqProofs [lV,pE,k1,k2,hi',hw,fX,eq_true hx,hx',hinv,hc,Lib.extract_mk,gp,e3,eq_true ht]
   ·simp -implicitDefEqProofs [lV,pE,k1,k2,hi',hw,fX,eq_true hx,hx',hinv,hc,Lib.extract_mk,gp,e3,eq_false ht,cl,hlz]
  rw[e];have hc:=As ((s.drop g.2).take (s.length - g.2)) (by simp;omega);have e3:(s.take s.length).drop g.2=(s.drop g.2).take (s.length - g.2):=List.drop_take ..;by_cases ht:dH ((s.drop g.2).take (s.length - g.2))=[];·simp only[fX,e3,gp,eq_true ht];simp -implicitDefEqProofs [lV,pE,hw,hinv,hc,Lib.extract_mk,eq_true ht]
  simp only[fX,e3,gp,eq_false ht];simp -implicitDefEqProofs [lV,pE,hl,hw,hinv,hc,Lib.extract_mk,eq_false ht,cl,hlz]
 ·exact NC 44 gp HS s i g b hinv
 ·have N7:¬((s.length:Int)+1<=s.length):=by omega
  simp -implicitDefEqProofs [lV,pE,N7]
def EB(s:ai)(hb:s.length<=1073741824):ev LI TT 168 [.str ⟨s.toArray⟩]=some (.row .own 1 ((fS s).map eS),[.dead]):=by rw[az (b:=yA) (rs:=[.t 2]) (n:=1) rfl rfl];have u1:=JD s hb ([],0) ⟨by omega,by simp⟩;rw[Ns,show (ct 44 s).flatMap gp=fS s from (ID s).symm] at u1;simp at u1;simp -implicitDefEqProofs [yA,u1];all_goals (repeat' split)<;>first|rfl|omega|(simp_all;done)|(simp_all;omega)|skip
def Jq(s:ai)(ws:List ai)(hb:∀w∈ws,w.length<=1073741824)(hl0:ws.length<=1073741825):aT (aD (ev LI TT) (aH TT) qM) [(3,.row .own 1 (([]).map eS)),(8,.row .own 1 (ws.map eS)),(9,.int .i64 ws.length),(10,.int .i64 0)]=some (.exit 0,[(3,.row .own 1 ((((ws).flatMap gp)).map eS)),(8,.row .own 1 (ws.map eS)),(9,.int .i64 ws.length),(10,.int .i64 (ws).length),(11,.bool false)]):=by
 refine ud (f:=aD (ev LI TT) (aH TT) qM) (ws) gp (λi out=>[(3,.row .own 1 ((out).map eS)),(8,.row .own 1 (ws.map eS)),(9,.int .i64 ws.length),(10,.int .i64 i)]) (λout=>[(3,.row .own 1 ((out).map eS)),(8,.row .own 1 (ws.map eS)),(9,.int .i64 ws.length),(10,.int .i64 (ws).length),(11,.bool false)]) (λi b out hi hl hout=>?_) (λout hout=>?_)
 ·have hw:=cq i (by first|omega|(simp at hl;omega));obtain⟨_,rfl⟩:=br.1 hi;have hlo:out.length<=i:=by rw[hout];exact A6 gp HS ws i
  have hlz:(out.length+1)*16<=140737488355328:=by omega
  have hc:=Ep ws[i] (by have:=hb _ (dy hl);omega);unfold gp;by_cases ht:dH ws[i]=[];·simp -implicitDefEqProofs [qM,xD,hl,hw,hc,eq_true ht]
  simp -implicitDefEqProofs [qM,xD,hl,hw,hc,eq_false ht,cl,hlz]
 ·simp -implicitDefEqProofs [qM,xD]
def KB(s:ai)(hb:s.length<=1073741824):ev LI TT 190 [.str ⟨s.toArray⟩]=some (.row .own 1 ((fS s).map eS),[.dead]):=by
 rw[az (b:=xE) (rs:=[.t 2]) (n:=1) rfl rfl];rw[ID s,show (λw=>if dH w≠[] then [dH w] else [])=gp from rfl];have u1:=K6 s 44 (by omega);try simp at u1
 have u2:=Jq s (ct 44 s) (λw hw=>by have:=HV 44 s w hw;omega) (by have:=HU 44 s;omega);try simp at u2
 simp -implicitDefEqProofs [xE,u1,u2];all_goals (repeat' split)<;>first|rfl|omega|(simp_all;done)|(simp_all;omega)|skip
def JP(l:List ai)(hl0:l.length<=1073741824)(hb:∀w∈l,w.length<=1073741824):aT (aD (ev LI TT) (aH TT) vl) [(0,.row .ah 1 (l.map eS)),(3,.int .i64 0)]=if cj eY (l)=true then some (.exit 0,[(0,.row .ah 1 (l.map eS)),(3,.int .i64 (l).length),(7,.bool false)]) else some (.ret,[(2,.bool false)]):=by
 refine kC (f:=aD (ev LI TT) (aH TT) vl) (l) (λi=>[(0,.row .ah 1 (l.map eS)),(3,.int .i64 i)]) eY _ _ (λi b hi hl=>?_) ?_
 ·have hw:=cq i (by first|omega|(simp at hl;omega));obtain⟨_,rfl⟩:=br.1 hi;have u1:=EC l[i] (by have:=hb _ (dy hl);omega);try simp at u1
  simp -implicitDefEqProofs [vl,CQ,hl,hw,u1];all_goals (repeat' split)<;>first|rfl|omega|(simp_all;done)|(simp_all;omega)|skip
 ·simp -implicitDefEqProofs [vl,CQ]
def EH(l:List ai)(hl0:l.length<=1073741824)(hb:∀w∈l,w.length<=1073741824):ev LI TT 85 [.row .ah 1 (l.map eS)]=some (.bool ((cj eY l && decide ((l.length:Int)<=4))),[.dead]):=by
 rw[az (b:=yW) (rs:=[.t 2]) (n:=1) rfl rfl];have u1:=JP l hl0 hb;try simp at u1
 simp -implicitDefEqProofs [yW,u1];all_goals (repeat' split)<;>first|rfl|omega|(simp_all;done)|(simp_all;omega)|skip
end M
namespace M
open Go
end M
namespace M
open Go
def JM(fs:List ax)(n:ai)(hb:fs.length<=9223372036854775807):aT (aD (ev LI TT) (aH TT) vb) [(0,.row .ah 2 (fs.map aE)),(1,.str ⟨n.toArray⟩),(5,.int .i64 0)]=(dK (λf=>decide (f.name=n)) 0 (fs)).elim (some (.exit 0,[(0,.row .ah 2 (fs.map aE)),(1,.str ⟨n.toArray⟩),(5,.int .i64 (fs).length),(9,.bool false)])) λx=>some (.ret,(λ(i:Nat) b=>[(4,.int .i64 i)]) x.1 x.2):=by
 refine xW (f:=aD (ev LI TT) (aH TT) vb) (fs) (λi=>[(0,.row .ah 2 (fs.map aE)),(1,.str ⟨n.toArray⟩),(5,.int .i64 i)]) (λf=>decide (f.name=n)) (λ(i:Nat) b=>[(4,.int .i64 i)]) _ (λi b hi hl=>?_) ?_;·have hw:=cq i (by first|omega|(simp at hl;omega));obtain⟨_,rfl⟩:=br.1 hi;simp -implicitDefEqProofs [vb,CM,hl,hw]
 ·simp -implicitDefEqProofs [vb,CM]
def qd(fs:List ax)(n:ai)(hb:fs.length<=9223372036854775807):ev LI TT 161 [.row .ah 2 (fs.map aE),.str ⟨n.toArray⟩]=some (.int .i64 (cV (ck fs n)),[.dead,.dead]):=by
 rw[az (b:=ve) (rs:=[.t 4]) (n:=2) rfl rfl];have h:=JM fs n hb;rw[show dK (λf=>decide (f.name=n)) 0 fs=ck fs n from rfl] at h;simp at h;cases g:ck fs n with
 |none=>rw[g] at h;simp at h;simp -implicitDefEqProofs [ve,h,cV]
 |some x=>
 rw[g] at h;simp at h;simp -implicitDefEqProofs [ve,h,cV];all_goals (repeat' split)<;>first|rfl|omega|(simp_all;done)|(simp_all;omega)|skip
def ke(fs:List ax)(n:ai)(hb:fs.length<=9223372036854775807):ev LI TT 160 [.row .ah 2 (fs.map aE),.str ⟨n.toArray⟩]=some (.aq [.str ⟨((bP fs n).getD []).toArray⟩,.bool (bP fs n).isSome],[.dead,.dead]):=by
 rw[az (b:=uN) (rs:=[.t 4,.t 5]) (n:=2) rfl rfl];have h:=qd fs n hb;unfold bP;cases g:ck fs n with
 |none=>rw[g] at h;simp[cV] at h;simp -implicitDefEqProofs [uN,h]
 |some x=>
 obtain⟨i,b⟩:=x;rw[g] at h;obtain⟨h1,h2,h3⟩:=qw g;simp at h2;simp[cV] at h;have hi:i<fs.length:=(br.1 h2).1;obtain⟨_,rfl⟩:=br.1 h2;simp -implicitDefEqProofs [uN,h,hi];all_goals (repeat' split)<;>first|rfl|omega|(simp_all;done)|(simp_all;omega)|skip
def KE(f:ax)(n:ai):ev LI TT 172 [.agg (aE f),.ptr .ah [.str ⟨n.toArray⟩]]=some (.bool (decide (f.name=n)),[.dead,.dead]):=by rw[az (b:=xJ) (rs:=[.t 3]) (n:=2) rfl rfl];simp -implicitDefEqProofs [xJ];all_goals (repeat' split)<;>first|rfl|omega|(simp_all;done)|(simp_all;omega)|skip
def JR(fs:List ax)(n:ai)(hb:fs.length<=9223372036854775807):aT (aD (ev LI TT) (aH TT) vF) [(0,.row .ah 2 (fs.map aE)),(1,.fn 172 [.ptr .ah [.str ⟨n.toArray⟩]]),(7,.int .i64 fs.length),(8,.int .i64 0)]=(dK (λf=>decide (f.name=n)) 0 (fs)).elim (some (.exit 0,[(0,.row .ah 2 (fs.map aE)),(1,.fn 172 [.ptr .ah [.str ⟨n.toArray⟩]]),(7,.int .i64 fs.length),(8,.int .i64 (fs).length),(9,.bool false)])) λx=>some (.ret,(λ(i:Nat) b=>[(4,.int .i64 i)]) x.1 x.2):=by
 refine xW (f:=aD (ev LI TT) (aH TT) vF) (fs) (λi=>[(0,.row .ah 2 (fs.map aE)),(1,.fn 172 [.ptr .ah [.str ⟨n.toArray⟩]]),(7,.int .i64 fs.length),(8,.int .i64 i)]) (λf=>decide (f.name=n)) (λ(i:Nat) b=>[(4,.int .i64 i)]) _ (λi b hi hl=>?_) ?_;·have hw:=cq i (by first|omega|(simp at hl;omega));obtain⟨_,rfl⟩:=br.1 hi;have ho:aH TT 172=true:=rfl;have hf:=KE fs[i] n;simp at hf;simp -implicitDefEqProofs [vF,Dg,hl,hw,ho,BP,hf]
 ·simp -implicitDefEqProofs [vF,Dg]
def K4(fs:List ax)(n:ai)(hb:fs.length<=9223372036854775807):ev LI TT 171 [.row .ah 2 (fs.map aE),.fn 172 [.ptr .ah [.str ⟨n.toArray⟩]]]=some (.int .i64 (cV (ck fs n)),[.dead,.dead]):=by
 rw[az (b:=vG) (rs:=[.t 4]) (n:=2) rfl rfl];have h:=JR fs n hb;rw[show dK (λf=>decide (f.name=n)) 0 fs=ck fs n from rfl] at h;simp at h;cases g:ck fs n with
 |none=>rw[g] at h;simp at h;simp -implicitDefEqProofs [vG,h,cV]
 |some x=>
 rw[g] at h;simp at h;simp -implicitDefEqProofs [vG,h,cV];all_goals (repeat' split)<;>first|rfl|omega|(simp_all;done)|(simp_all;omega)|skip
def Ap(fs:List ax)(n:ai)(hb:fs.length<=9223372036854775807):ev LI TT 89 [.row .ah 2 (fs.map aE),.str ⟨n.toArray⟩]=some (.int .i64 (cV (ck fs n)),[.dead,.dead]):=by rw[az (b:=xK) (rs:=[.t 4]) (n:=2) rfl rfl];have h:=K4 fs n hb;simp -implicitDefEqProofs [xK,h,rj,jT];all_goals (repeat' split)<;>first|rfl|omega|(simp_all;done)|(simp_all;omega)|skip
def ld(fs:List ax)(n:ai)(hb:fs.length<=9223372036854775807):ev LI TT 19 [.row .ah 2 (fs.map aE),.str ⟨n.toArray⟩]=some (.aq [.str ⟨((bP fs n).getD []).toArray⟩,.bool (bP fs n).isSome],[.dead,.dead]):=by
 rw[az (b:=tP) (rs:=[.t 4,.t 5]) (n:=2) rfl rfl];have h:=Ap fs n hb;unfold bP;cases g:ck fs n with
 |none=>rw[g] at h;simp[cV] at h;simp -implicitDefEqProofs [tP,h]
 |some x=>
 obtain⟨i,b⟩:=x;rw[g] at h;obtain⟨h1,h2,h3⟩:=qw g;simp at h2;simp[cV] at h;have hi:i<fs.length:=(br.1 h2).1;obtain⟨_,rfl⟩:=br.1 h2;simp -implicitDefEqProofs [tP,h,hi];all_goals (repeat' split)<;>first|rfl|omega|(simp_all;done)|(simp_all;omega)|skip
end M
namespace M
open Go
def ur:(⟨#[99,111,110,116,101,110,116,45,108,101,110,103,116,104]⟩:ByteArray)=⟨ij.toArray⟩:=rfl
def Jv(fs:List ax)(hb:wL aB fs<=1073741824):aT (aD (ev LI TT) (aH TT) lU) [(0,.row .ah 2 (fs.map aE)),(3,.int .i64 0)]=if cj (fh fs) (fs.zipIdx)=true then some (.exit 0,[(0,.row .ah 2 (fs.map aE)),(3,.int .i64 (fs.zipIdx).length),(7,.bool false)]) else some (.ret,[(2,.bool false)]):=by
 refine kC (f:=aD (ev LI TT) (aH TT) lU) (fs.zipIdx) (λi=>[(0,.row .ah 2 (fs.map aE)),(3,.int .i64 i)]) (fh fs) _ _ (λi b hi hl=>?_) ?_
 ·have hw:=cq i (by have:=cv (w:=aB) fs;simp at hl;omega);obtain⟨_,rfl⟩:=br.1 hi;simp only[List.length_zipIdx] at hl;have hz:fs.zipIdx[i]'(by simpa using hl)=(fs[i],i):=by simp
  have hm:=zo (dy hl);have hfl:=cv (w:=aB) fs;rw[hz];have u1:=EC fs[i].name (by omega);try simp at u1
  have u2:=ED fs[i].value (by omega);try simp at u2
  have u3:=qd fs fs[i].name (by omega);try simp at u3
  by_cases g1:eY fs[i].name=true;rotate_left;·simp -implicitDefEqProofs [lU,oZ,hl,hw,u1,u2,u3,fh,g1]
  by_cases g2:eZ fs[i].value=true;rotate_left;·simp -implicitDefEqProofs [lU,oZ,hl,hw,u1,u2,u3,fh,g1,g2]
  by_cases g3:cV (ck fs fs[i].name)=i;rotate_left;·simp -implicitDefEqProofs [lU,oZ,hl,hw,u1,u2,u3,fh,g1,g2,eq_false g3]
  by_cases hcl:fs[i].name=ij;·simp -implicitDefEqProofs [lU,oZ,hl,hw,u1,u2,u3,g1,g2,eq_true g3,fh,ur,eq_true hcl]
  simp -implicitDefEqProofs [lU,oZ,hl,hw,u1,u2,u3,fh,g1,g2,eq_true g3,ur,eq_false hcl];all_goals (repeat' split)<;>first|rfl|omega|(simp_all;done)|(simp_all;omega)|skip
 ·simp -implicitDefEqProofs [lU,oZ]
def Ew(fs:List ax)(hb:wL aB fs<=1073741824):ev LI TT 158 [.row .ah 2 (fs.map aE)]=some (.bool ((ef fs)),[.dead]):=by
 rw[az (b:=yt) (rs:=[.t 2]) (n:=1) rfl rfl];unfold ef;have hfl:=cv (w:=aB) fs;have u1:=Jv fs hb;try simp at u1
 simp -implicitDefEqProofs [yt,u1];all_goals (repeat' split)<;>first|rfl|omega|(simp_all;done)|(simp_all;omega)|skip
def Jn(fs:List ax)(hb:wL aB fs<=1073741824):aT (aD (ev LI TT) (aH TT) lK) [(0,.row .ah 2 (fs.map aE)),(5,.row .ah 2 (fs.map aE)),(6,.int .i64 fs.length),(7,.int .i64 0)]=if cj (fh fs) (fs.zipIdx)=true then some (.exit 0,[(0,.row .ah 2 (fs.map aE)),(5,.row .ah 2 (fs.map aE)),(6,.int .i64 fs.length),(7,.int .i64 (fs.zipIdx).length),(8,.bool false)]) else some (.ret,[(2,.bool false)]):=by
 refine kC (f:=aD (ev LI TT) (aH TT) lK) (fs.zipIdx) (λi=>[(0,.row .ah 2 (fs.map aE)),(5,.row .ah 2 (fs.map aE)),(6,.int .i64 fs.length),(7,.int .i64 i)]) (fh fs) _ _ (λi b hi hl=>?_) ?_
 ·have hw:=cq i (by have:=cv (w:=aB) fs;simp at hl;omega);obtain⟨_,rfl⟩:=br.1 hi;simp only[List.length_zipIdx] at hl;have hz:fs.zipIdx[i]'(by simpa using hl)=(fs[i],i):=by simp
  have hm:=zo (dy hl);have hfl:=cv (w:=aB) fs;rw[hz];have u1:=KC fs[i].name (by omega);try simp at u1
  have u2:=KD fs[i].value (by omega);try simp at u2
  have u3:=Ap fs fs[i].name (by omega);try simp at u3
  by_cases g1:eY fs[i].name=true;rotate_left;·simp -implicitDefEqProofs [lK,oJ,hl,hw,u1,u2,u3,fh,g1]
  by_cases g2:eZ fs[i].value=true;rotate_left;·simp -implicitDefEqProofs [lK,oJ,hl,hw,u1,u2,u3,fh,g1,g2]
  by_cases hcl:fs[i].name=ij;·simp -implicitDefEqProofs [lK,oJ,hl,hw,u1,u2,u3,g1,g2,fh,ur,eq_true hcl]
  by_cases g3:cV (ck fs fs[i].name)=i;rotate_left;·simp -implicitDefEqProofs [lK,oJ,hl,hw,u1,u2,u3,g1,g2,fh,ur,eq_false hcl,eq_false g3]
  simp -implicitDefEqProofs [lK,oJ,hl,hw,u1,u2,u3,fh,g1,g2,ur,eq_false hcl,eq_true g3];all_goals (repeat' split)<;>first|rfl|omega|(simp_all;done)|(simp_all;omega)|skip
 ·simp -implicitDefEqProofs [lK,oJ]
def Ek(fs:List ax)(hb:wL aB fs<=1073741824):ev LI TT 94 [.row .ah 2 (fs.map aE)]=some (.bool ((ef fs)),[.dead]):=by
 rw[az (b:=xy) (rs:=[.t 2]) (n:=1) rfl rfl];unfold ef;have hfl:=cv (w:=aB) fs;have u1:=Jn fs hb;try simp at u1
 simp -implicitDefEqProofs [xy,u1];all_goals (repeat' split)<;>first|rfl|omega|(simp_all;done)|(simp_all;omega)|skip
def FC(fs:List ax)(i:Nat)(h:i<fs.length)(v:ai):(fs.map aE).modify i (λe=>e.set 1 (X.str ⟨v.toArray⟩))=(fs.set i ⟨fs[i].name,v⟩).map aE:=by
 apply gy;intro j;rw[vN,cg,cg,zP];by_cases hij:i=j;·subst hij;simp[h]
 ·simp only[hij,iZ];cases fs[j]?<;>rfl
def FD(fs:List ax):fP (fs.map aE)=true:=by induction fs<;>simp_all[fP,scalar]
def wk(fs:List ax)(n:ai)(v:ai)(hb:fs.length<=1073741824):ev LI TT 71 [.row .ah 2 (fs.map aE),.str ⟨n.toArray⟩,.str ⟨v.toArray⟩]=some (.row .own 2 ((dh fs n v).map aE),[.dead,.dead,.dead]):=by
 rw[az (b:=uT) (rs:=[.t 6]) (n:=3) rfl rfl];unfold dh;have hk:fs.length*32<=140737488355328:=by omega
 have hk2:(fs.length+1)*32<=140737488355328:=by omega
 have hsc:=FD fs;have u1:=qd fs n (by omega);try simp at u1
 cases g:ck fs n with
 |none=>rw[g] at u1;simp[cV] at u1;simp -implicitDefEqProofs [uT,u1,rowAt,hk,hk2,hsc,cl]
 |some x=>
 obtain⟨i,f⟩:=x;obtain⟨hi,rfl,_⟩:=od g;rw[g] at u1;simp[cV] at u1;simp -implicitDefEqProofs [uT,u1,hk,hk2,hsc,hi,rowAt,FC fs i hi v,-List.map_set];all_goals (repeat' split)<;>first|rfl|omega|(simp_all;done)|(simp_all;omega)|skip
def Em(fs:List ax)(n:ai)(v:ai)(hb:fs.length<=1073741824):ev LI TT 60 [.row .ah 2 (fs.map aE),.str ⟨n.toArray⟩,.str ⟨v.toArray⟩]=some (.row .own 2 ((dh fs n v).map aE),[.dead,.dead,.dead]):=by
 rw[az (b:=tS) (rs:=[.t 6]) (n:=3) rfl rfl];unfold dh;have hk2:(fs.length+1)*32<=140737488355328:=by omega
 have u1:=Ap fs n (by omega);try simp at u1
 have u2:=GD fs hb;try simp at u2
 cases g:ck fs n with
 |none=>rw[g] at u1;simp[cV] at u1;simp -implicitDefEqProofs [tS,u1,u2,rowAt,hk2,cl]
 |some x=>
 obtain⟨i,f⟩:=x;obtain⟨hi,rfl,_⟩:=od g;rw[g] at u1;simp[cV] at u1;simp -implicitDefEqProofs [tS,u1,u2,hk2,hi,rowAt,FC fs i hi v,-List.map_set];all_goals (repeat' split)<;>first|rfl|omega|(simp_all;done)|(simp_all;omega)|skip
def sN(r:bh)(hb:bl r<=1073741824):ev LI TT 65 [.agg (cy .ah r)]=some (.bool ((cI r)),[.dead]):=by
 rw[az (b:=pz) (rs:=[.t 2]) (n:=1) rfl rfl];have hw:bl r=wL aB r.fields+r.body.length:=rfl;unfold cI;have u1:=Ew r.fields (by omega);try simp at u1
 by_cases g1:100<=r.status;rotate_left;·simp -implicitDefEqProofs [pz,u1,eq_false g1]
 by_cases g2:r.status<=599;rotate_left;·simp -implicitDefEqProofs [pz,u1,eq_true g1,eq_false g2]
 by_cases g3:ef r.fields=true;rotate_left;·simp -implicitDefEqProofs [pz,u1,eq_true g1,eq_true g2,g3]
 simp -implicitDefEqProofs [pz,u1,eq_true g1,eq_true g2,g3];all_goals (repeat' split)<;>first|rfl|omega|(simp_all;done)|(simp_all;omega)|skip
def wj(r:bh)(hb:bl r<=1073741824):ev LI TT 22 [.agg (cy .ah r)]=some (.bool ((cI r)),[.dead]):=by
 rw[az (b:=oL) (rs:=[.t 2]) (n:=1) rfl rfl];have hw:bl r=wL aB r.fields+r.body.length:=rfl;unfold cI;have u1:=Ek r.fields (by omega);try simp at u1
 by_cases g1:100<=r.status;rotate_left;·simp -implicitDefEqProofs [oL,u1,eq_false g1]
 by_cases g2:r.status<=599;rotate_left;·simp -implicitDefEqProofs [oL,u1,eq_true g1,eq_false g2]
 by_cases g3:(r.body.length:Int)<=120;rotate_left;·simp -implicitDefEqProofs [oL,u1,eq_true g1,eq_true g2,eq_false g3]
 simp -implicitDefEqProofs [oL,u1,eq_true g1,eq_true g2,eq_true g3];all_goals (repeat' split)<;>first|rfl|omega|(simp_all;done)|(simp_all;omega)|skip
def EG(fs:List ax)(hb:fs.length<=1073741824):ev LI TT 159 [.row .ah 2 (fs.map aE)]=some (.row .own 2 (fs.map aE),[.dead]):=by rw[az (b:=yV) (rs:=[.t 2]) (n:=1) rfl rfl];simp -implicitDefEqProofs [yV,FD fs,rowAt,(by omega:fs.length*32<=140737488355328)];all_goals (repeat' split)<;>first|rfl|omega|(simp_all;done)|(simp_all;omega)|skip
def EI(r:bh)(hb:r.fields.length<=1073741824):ev LI TT 68 [.agg (cy .ah r)]=some (.agg (cy .own r),[.dead]):=by
 rw[az (b:=yY) (rs:=[.c 2 3 true 29]) (n:=1) rfl rfl];have u1:=EG r.fields hb;try simp at u1
 simp -implicitDefEqProofs [yY,u1];all_goals (repeat' split)<;>first|rfl|omega|(simp_all;done)|(simp_all;omega)|skip
def Es(r:bh)(hb:r.fields.length<=1073741824):ev LI TT 58 [.agg (cy .ah r)]=some (.agg (cy .own r),[.dead]):=by
 rw[az (b:=xI) (rs:=[.c 2 3 true 29]) (n:=1) rfl rfl];have u1:=GD r.fields hb;try simp at u1
 simp -implicitDefEqProofs [xI,u1];all_goals (repeat' split)<;>first|rfl|omega|(simp_all;done)|(simp_all;omega)|skip
end M
namespace M
open Go
def zu(s:ai):(fS s).length<=s.length+1:=by unfold fS;have h1:=DK (λw:ai=>decide (w≠[])) ((ct 44 s).map dH);have h2:=HU 44 s;simp only[cM] at h1;omega
def vC(s:ai):∀w∈fS s,w.length<=s.length:=by intro w hw;unfold fS at hw;obtain⟨x,hx,rfl⟩:=aL.1 (List.mem_filter.1 hw).1;have h1:=HV 44 s x hx;have h2:=Ik x;omega
def JJ(ws:List ai)(hl0:ws.length<=1073741825)(hb:∀w∈ws,w.length<=1073741824):aT (aD (ev LI TT) (aH TT) u0) [(5,.row .own 1 ((gd bz ws 0).map eS)),(6,.int .i64 0)]=some (.exit 0,[(5,.row .own 1 ((gd bz ws (ws).length).map eS)),(6,.int .i64 (ws).length),(17,.bool false)]):=by
 refine GO (f:=aD (ev LI TT) (aH TT) u0) (ws) (λi=>[(5,.row .own 1 ((gd bz ws i).map eS)),(6,.int .i64 i)]) _ (λi b hi hl=>?_) ?_
 ·have hw:=cq i (by first|omega|(simp at hl;omega));obtain⟨_,rfl⟩:=br.1 hi;have h1:=Pg bz ws i hl;have h2:=Ph bz ws i hl;have u1:=Ey ws[i] (hb _ (dy hl));try simp at u1
  simp -implicitDefEqProofs [u0,CK,hl,hw,u1,h1,h2,rowAt,-List.map_set]
 ·simp -implicitDefEqProofs [u0,CK,rowAt]
def Au(fs:List ax)(hb:wL aB fs<=1073741824):ev LI TT 87 [.row .ah 2 (fs.map aE)]=some (.row .own 1 ((dm fs).map eS),[.dead]):=by
 rw[az (b:=yF) (rs:=[.t 2]) (n:=1) rfl rfl];have hfl:=cv (w:=aB) fs;have hg:=kn fs gj;have u1:=ke fs gj (by omega);try simp at u1
 have u2:=EB ((bP fs gj).getD []) (by omega);try simp at u2
 have u3:=JJ (fS ((bP fs gj).getD [])) (by have:=zu ((bP fs gj).getD []);omega) (λw hw=>by have:=vC _ w hw;omega);try simp at u3
 rw[Pj,Pe,show (fS ((bP fs gj).getD [])).map bz=dm fs from rfl] at u3;simp -implicitDefEqProofs [yF,u1,u2,u3];all_goals (repeat' split)<;>first|rfl|omega|(simp_all;done)|(simp_all;omega)|skip
def Da(fs:List ax):(dm fs).length<=wL aB fs+1:=by have h1:=zu ((bP fs gj).getD []);have h2:=kn fs gj;simp[dm];omega
def JC(r:bh)(hb:r.fields.length<=1073741824):aT (aD (ev LI TT) (aH TT) nJ) [(1,.ptr .own (cy .ah r)),(2,.ptr .own [.int .i64 0,.row .own 2 [],.str ⟨#[]⟩]),(3,.ptr .own [.int .i64 304,.row .own 2 (([]).map aE),.str ⟨#[]⟩]),(4,.int .i64 0)]=some (.exit 0,[(1,.ptr .own (cy .ah r)),(2,.ptr .own [.int .i64 0,.row .own 2 [],.str ⟨#[]⟩]),(3,.ptr .own [.int .i64 304,.row .own 2 ((((r.fields).flatMap (λf=>if di f=true then [f] else []))).map aE),.str ⟨#[]⟩]),(4,.int .i64 (r.fields).length),(11,.bool false)]):=by
 refine ud (f:=aD (ev LI TT) (aH TT) nJ) (r.fields) (λf=>if di f=true then [f] else []) (λi out=>[(1,.ptr .own (cy .ah r)),(2,.ptr .own [.int .i64 0,.row .own 2 [],.str ⟨#[]⟩]),(3,.ptr .own [.int .i64 304,.row .own 2 ((out).map aE),.str ⟨#[]⟩]),(4,.int .i64 i)]) (λout=>[(1,.ptr .own (cy .ah r)),(2,.ptr .own [.int .i64 0,.row .own 2 [],.str ⟨#[]⟩]),(3,.ptr .own [.int .i64 304,.row .own 2 ((out).map aE),.str ⟨#[]⟩]),(4,.int .i64 (r.fields).length),(11,.bool false)]) (λi b out hi hl hout=>?_) (λout hout=>?_)
 ·have hw:=cq i (by first|omega|(simp at hl;omega));obtain⟨_,rfl⟩:=br.1 hi;have hlo:out.length<=i:=by rw[hout];exact A6 _ (λf=>by split<;>simp) _ _
  have hlz:(out.length+1)*32<=140737488355328:=by omega
  unfold di;have t1:(⟨#[101,116,97,103]⟩:ByteArray)=⟨gK.toArray⟩:=rfl;have t2:(⟨#[118,97,114,121]⟩:ByteArray)=⟨gj.toArray⟩:=rfl;have t3:(⟨#[99,97,99,104,101,45,99,111,110,116,114,111,108]⟩:ByteArray)=⟨gi.toArray⟩:=rfl;by_cases g1:(r.fields[i]).name=gK;·simp -implicitDefEqProofs [nJ,rF,hl,hw,hlo,hlz,cl,t1,t2,t3,eq_true g1]
  by_cases g2:(r.fields[i]).name=gj;·simp -implicitDefEqProofs [nJ,rF,hl,hw,hlo,hlz,cl,t1,t2,t3,eq_false g1,eq_true g2]
  by_cases g3:(r.fields[i]).name=gi;·simp -implicitDefEqProofs [nJ,rF,hl,hw,hlo,hlz,cl,t1,t2,t3,eq_false g1,eq_false g2,eq_true g3]
  simp -implicitDefEqProofs [nJ,rF,hl,hw,hlo,hlz,cl,t1,t2,t3,eq_false g1,eq_false g2,eq_false g3];all_goals (repeat' split)<;>first|rfl|omega|(simp_all;done)|(simp_all;omega)|skip
 ·simp -implicitDefEqProofs [nJ,rF]
def KT(r:bh)(hb:r.fields.length<=1073741824):ev LI TT 70 [.agg (cy .ah r)]=some (.agg (cy .own (fy r)),[.dead]):=by
 rw[az (b:=yz) (rs:=[.c 2 3 true 29]) (n:=1) rfl rfl];have e:r.fields.flatMap (λf=>if di f=true then [f] else [])=r.fields.filter di:=by generalize r.fields=l;induction l with|nil=>rfl|cons a l ih=>simp only[gO,zM,ih];split<;>simp
 have u1:=JC r hb;try simp at u1
 simp -implicitDefEqProofs [yz,u1,fy,e];all_goals (repeat' split)<;>first|rfl|omega|(simp_all;done)|(simp_all;omega)|skip
def Jp(r:bh)(hb:r.fields.length<=1073741824):aT (aD (ev LI TT) (aH TT) ni) [(1,.ptr .own (cy .ah r)),(2,.ptr .own [.int .i64 0,.row .own 2 [],.str ⟨#[]⟩]),(3,.ptr .own [.int .i64 304,.row .own 2 (([]).map aE),.str ⟨#[]⟩]),(7,.av 1 [] 0 1),(8,.row .ah 2 (r.fields.map aE)),(9,.int .i64 r.fields.length),(10,.int .i64 0)]=some (.exit 0,[(1,.ptr .own (cy .ah r)),(2,.ptr .own [.int .i64 0,.row .own 2 [],.str ⟨#[]⟩]),(3,.ptr .own [.int .i64 304,.row .own 2 ((((r.fields).flatMap (λf=>if di f=true then [f] else []))).map aE),.str ⟨#[]⟩]),(7,.av 1 [] 0 1),(8,.row .ah 2 (r.fields.map aE)),(9,.int .i64 r.fields.length),(10,.int .i64 (r.fields).length),(11,.bool false)]):=by
 refine ud (f:=aD (ev LI TT) (aH TT) ni) (r.fields) (λf=>if di f=true then [f] else []) (λi out=>[(1,.ptr .own (cy .ah r)),(2,.ptr .own [.int .i64 0,.row .own 2 [],.str ⟨#[]⟩]),(3,.ptr .own [.int .i64 304,.row .own 2 ((out).map aE),.str ⟨#[]⟩]),(7,.av 1 [] 0 1),(8,.row .ah 2 (r.fields.map aE)),(9,.int .i64 r.fields.length),(10,.int .i64 i)]) (λout=>[(1,.ptr .own (cy .ah r)),(2,.ptr .own [.int .i64 0,.row .own 2 [],.str ⟨#[]⟩]),(3,.ptr .own [.int .i64 304,.row .own 2 ((out).map aE),.str ⟨#[]⟩]),(7,.av 1 [] 0 1),(8,.row .ah 2 (r.fields.map aE)),(9,.int .i64 r.fields.length),(10,.int .i64 (r.fields).length),(11,.bool false)]) (λi b out hi hl hout=>?_) (λout hout=>?_)
 ·have hw:=cq i (by first|omega|(simp at hl;omega));obtain⟨_,rfl⟩:=br.1 hi;have hlo:out.length<=i:=by rw[hout];exact A6 _ (λf=>by split<;>simp) _ _
  have hlz:(out.length+1)*32<=140737488355328:=by omega
  unfold di;have t1:(⟨#[101,116,97,103]⟩:ByteArray)=⟨gK.toArray⟩:=rfl;have t2:(⟨#[118,97,114,121]⟩:ByteArray)=⟨gj.toArray⟩:=rfl;have t3:(⟨#[99,97,99,104,101,45,99,111,110,116,114,111,108]⟩:ByteArray)=⟨gi.toArray⟩:=rfl;by_cases g1:(r.fields[i]).name=gK;·simp -implicitDefEqProofs [ni,qL,hl,hw,hlo,hlz,cl,t1,t2,t3,eq_true g1]
  by_cases g2:(r.fields[i]).name=gj;·simp -implicitDefEqProofs [ni,qL,hl,hw,hlo,hlz,cl,t1,t2,t3,eq_false g1,eq_true g2]
  by_cases g3:(r.fields[i]).name=gi;·simp -implicitDefEqProofs [ni,qL,hl,hw,hlo,hlz,cl,t1,t2,t3,eq_false g1,eq_false g2,eq_true g3]
  simp -implicitDefEqProofs [ni,qL,hl,hw,hlo,hlz,cl,t1,t2,t3,eq_false g1,eq_false g2,eq_false g3];all_goals (repeat' split)<;>first|rfl|omega|(simp_all;done)|(simp_all;omega)|skip
 ·simp -implicitDefEqProofs [ni,qL]
def KA(r:bh)(hb:r.fields.length<=1073741824):ev LI TT 59 [.agg (cy .ah r)]=some (.agg (cy .own (fy r)),[.dead]):=by
 rw[az (b:=xC) (rs:=[.c 2 3 true 29]) (n:=1) rfl rfl];have e:r.fields.flatMap (λf=>if di f=true then [f] else [])=r.fields.filter di:=by generalize r.fields=l;induction l with|nil=>rfl|cons a l ih=>simp only[gO,zM,ih];split<;>simp
 have u1:=Jp r hb;try simp at u1
 simp -implicitDefEqProofs [xC,u1,fy,e];all_goals (repeat' split)<;>first|rfl|omega|(simp_all;done)|(simp_all;omega)|skip
end M
namespace M
open Go
def Jk:∀{a b:List ai},(∀x∈a.zip b,¬(decide (x.1≠x.2))=true)->a.length=b.length->a=b
 |[],[],_,_=>rfl
 |x::a,y::b,h,hl=>by have h1:=h (x,y) (by simp);simp at h1;have h2:a=b:=Jk (λz hz=>h z (by simp only[zA];exact bU _ hz)) (by simpa using hl);rw[h1,h2]
def Ub{a b:List ai}{x:ai×ai}(hx:x∈a.zip b)(h:x.1≠x.2):a≠b:=by
 rintro rfl
 have:∀{l:List ai} {x:ai×ai},x∈l.zip l->x.1=x.2:=by
  intro l;induction l with
  |nil=>intro x h;simp at h
  |cons y l ih=>
   intro x h;simp only[zA,bA] at h;rcases h with rfl|h;·rfl
   ·exact ih h
 exact h (this hx)
def JO(a b:List ai)(hb:a.length<=9223372036854775807)(fF:b.length<=9223372036854775807):aT (aD (ev LI TT) (aH TT) rQ) [(0,.row .ah 1 (a.map eS)),(1,.row .ah 1 (b.map eS)),(5,.int .i64 0)]=(dK (λx=>decide (x.1≠x.2)) 0 (a.zip b)).elim (some (.exit 0,[(0,.row .ah 1 (a.map eS)),(1,.row .ah 1 (b.map eS)),(5,.int .i64 (a.zip b).length),(15,.bool false)])) λx=>some (.ret,(λ(i:Nat) b=>[(4,.bool false)]) x.1 x.2):=by
 refine xW (f:=aD (ev LI TT) (aH TT) rQ) (a.zip b) (λi=>[(0,.row .ah 1 (a.map eS)),(1,.row .ah 1 (b.map eS)),(5,.int .i64 i)]) (λx=>decide (x.1≠x.2)) (λ(i:Nat) b=>[(4,.bool false)]) _ (λi b hi hl=>?_) ?_
 ·have hw:=cq i (by first|omega|(simp at hl;omega));obtain⟨_,rfl⟩:=br.1 hi;have ha:i<a.length:=by simp at hl;omega
  have hb':i<b.length:=by simp at hl;omega
  simp -implicitDefEqProofs [rQ,yU,hl,hw,ha,hb']
 ·have hz:(a.zip b).length=min a.length b.length:=by simp
  rw[hz];by_cases hh:a.length<=b.length;·rw[jZ hh];simp -implicitDefEqProofs [rQ,yU]
  have h1:b.length<=a.length:=by omega
  have h2:(b.length:Int)<a.length:=by omega
  have h3:b.length<a.length:=by omega
  rw[Nat.min_eq_right h1];simp -implicitDefEqProofs [rQ,yU,h2,h3]
def K0(a b:List ai)(hb:a.length<=9223372036854775807)(fF:b.length<=9223372036854775807):ev LI TT 86 [.row .ah 1 (a.map eS),.row .ah 1 (b.map eS)]=some (.bool (decide (a=b)),[.dead,.dead]):=by
 rw[az (b:=rR) (rs:=[.t 4]) (n:=2) rfl rfl];have h:=JO a b hb fF;cases g:dK (λx:ai×ai=>decide (x.1≠x.2)) 0 (a.zip b) with
 |some x=>obtain⟨i,x⟩:=x;obtain⟨_,h1,h2⟩:=qw g;have h3:¬a=b:=Ub (me h1) (by simpa using h2);rw[g] at h;simp only[Option.elim] at h;simp -implicitDefEqProofs [rR,h,h3]
 |none=>
 have h1:=A0.1 g;rw[g] at h;simp only[Option.elim] at h;try simp at h
 by_cases hl:a.length=b.length
 ·have h2:=Jk h1 hl;subst h2;try simp at h
  simp -implicitDefEqProofs [rR,h]
 have h3:¬a=b:=λe=>hl (by rw[e]);have h4:¬(a.length:Int)=b.length:=by omega
 simp -implicitDefEqProofs [rR,h,h3,h4];all_goals (repeat' split)<;>first|rfl|omega|(simp_all;done)|(simp_all;omega)|skip
def KS(q:Rq)(fs:List ax)(h1:q.fields.length<=1073741824)(h2:fs.length<=1073741824):ev LI TT 69 [.agg (cF .ah q),.row .ah 2 (fs.map aE)]=some (.bool ((fO q fs)),[.dead,.dead]):=by
 rw[az (b:=rE) (rs:=[.t 4]) (n:=2) rfl rfl];unfold fO;cases e1:bP q.fields kF with
 |none=>have u1:=ke q.fields kF (by omega);have u2:=ke fs gK (by omega);rw[e1] at u1;simp at u1 u2;simp -implicitDefEqProofs [rE,u1,u2]
 |some a=>
 cases e2:bP fs gK with
 |none=>have u1:=ke q.fields kF (by omega);have u2:=ke fs gK (by omega);rw[e1] at u1;rw[e2] at u2;simp at u1 u2;simp -implicitDefEqProofs [rE,u1,u2]
 |some b=>
 have u1:=ke q.fields kF (by omega);try simp at u1
 have u2:=ke fs gK (by omega);try simp at u2
 rw[e1] at u1;rw[e2] at u2;simp at u1 u2;simp -implicitDefEqProofs [rE,u1,u2];all_goals (repeat' split)<;>first|rfl|omega|(simp_all;done)|(simp_all;omega)|skip
def Eo(q:Rq)(fs:List ax)(h1:q.fields.length<=1073741824)(h2:fs.length<=1073741824):ev LI TT 23 [.agg (cF .ah q),.row .ah 2 (fs.map aE)]=some (.bool ((fO q fs)),[.dead,.dead]):=by
 rw[az (b:=qK) (rs:=[.t 4]) (n:=2) rfl rfl];unfold fO;cases e1:bP q.fields kF with
 |none=>have u1:=ld q.fields kF (by omega);have u2:=ld fs gK (by omega);rw[e1] at u1;simp at u1 u2;simp -implicitDefEqProofs [qK,u1,u2];try (split<;>simp_all)
 |some a=>
 cases e2:bP fs gK with
 |none=>have u1:=ld q.fields kF (by omega);have u2:=ld fs gK (by omega);rw[e1] at u1;rw[e2] at u2;simp at u1 u2;simp -implicitDefEqProofs [qK,u1,u2]
 |some b=>
 have u1:=ld q.fields kF (by omega);try simp at u1
 have u2:=ld fs gK (by omega);try simp at u2
 rw[e1] at u1;rw[e2] at u2;simp at u1 u2;simp -implicitDefEqProofs [qK,u1,u2,eq_comm (a:=b)];all_goals (repeat' split)<;>first|rfl|omega|(simp_all;done)|(simp_all;omega)|skip
def KQ(x:Int)(y:Int):ev LI TT 163 [.int .i64 x,.int .i64 y]=some (.int .i64 ((plus x y)),[.dead,.dead]):=by
 rw[az (b:=yy) (rs:=[.t 4]) (n:=2) rfl rfl];unfold plus within;have e1:∀z:Int,(if (if 0<z then z else 0)<1000000 then (if 0<z then z else 0) else 1000000)=max 0 (min z 1000000):=λz=>by (repeat' split)<;>omega
 have e2:∀z:Int,(if (if z<0 then 0 else z)<1000000 then (if z<0 then 0 else z) else 1000000)=max 0 (min z 1000000):=λz=>by (repeat' split)<;>omega
 have w:=cD (n:=max 0 (min x 1000000)+max 0 (min y 1000000)) (by omega) (by omega);simp -implicitDefEqProofs [yy,e1,e2,w];try omega
def Ky(x:Int)(y:Int):ev LI TT 92 [.int .i64 x,.int .i64 y]=some (.int .i64 ((plus x y)),[.dead,.dead]):=by rw[az (b:=xB) (rs:=[.t 4]) (n:=2) rfl rfl];unfold plus within;have w:=cD (n:=max 0 (min x 1000000)+max 0 (min y 1000000)) (by omega) (by omega);simp -implicitDefEqProofs [xB,w];try omega
def KZ(t:Int)(now:Int)(h1:bI t)(h2:bI now):ev LI TT 164 [.int .i64 t,.int .i64 now]=some (.int .i64 ((since t now)),[.dead,.dead]):=by
 rw[az (b:=pJ) (rs:=[.t 4]) (n:=2) rfl rfl];obtain⟨a1,a2⟩:=h1;obtain⟨b1,b2⟩:=h2;unfold since;by_cases g1:now<=t;·simp -implicitDefEqProofs [pJ,g1]
 by_cases g2:t<0
 ·have w:=cD (n:=t+1000000) (by omega) (by omega);by_cases g3:t+1000000<now;·simp -implicitDefEqProofs [pJ,g1,g2,g3,w];omega
  have w2:=cD (n:=now - t) (by omega) (by omega);simp -implicitDefEqProofs [pJ,g1,g2,g3,w,w2];(repeat' split)<;>omega
 have w2:=cD (n:=now - t) (by omega) (by omega);simp -implicitDefEqProofs [pJ,g1,g2,w2];(repeat' split)<;>omega
def KH(t:Int)(now:Int)(h1:bI t)(h2:bI now):ev LI TT 93 [.int .i64 t,.int .i64 now]=some (.int .i64 ((since t now)),[.dead,.dead]):=by
 rw[az (b:=qO) (rs:=[.t 4]) (n:=2) rfl rfl];obtain⟨a1,a2⟩:=h1;obtain⟨b1,b2⟩:=h2;unfold since;by_cases g1:now<=t;·simp -implicitDefEqProofs [qO,g1]
 by_cases g2:now - t<=9223372036854775807
 ·have w2:=cD (n:=now - t) (by omega) (by omega);have w3:¬now - t<0:=by omega
  simp -implicitDefEqProofs [qO,g1,w2,w3];(repeat' split)<;>omega
 have w4:IntKind.i64.wrap (now - t)<0:=by rw[IntKind.wrap_i64];omega
 simp -implicitDefEqProofs [qO,g1,w4];(repeat' split)<;>omega
def KJ(fs:List ax)(t:Int)(now:Int)(hb:wL aB fs<=1073741824)(h1:bI t)(h2:bI now):ev LI TT 72 [.row .ah 2 (fs.map aE),.int .i64 t,.int .i64 now]=some (.int .i64 ((cx fs t now)),[.dead,.dead,.dead]):=by
 rw[az (b:=rz) (rs:=[.t 6]) (n:=3) rfl rfl];have hfl:=cv (w:=aB) fs;have hg:=kn fs bR;have u1:=ke fs bR (by omega);have u2:=Ez ((bP fs bR).getD []) (by omega);have u3:=KZ t now h1 h2;have u4:=KQ (sF fs) (since t now);try simp at u3 u4
 unfold cx;unfold sF at u4⊢;cases e1:bP fs bR with
 |none=>
  rw[e1] at u1 u2 u4;have e0:b9 []=none:=by simp[b9,iw,AK]
  simp[e0] at u1 u2 u4;simp -implicitDefEqProofs [rz,u1,u2,u3,u4]
 |some v=>
 rw[e1] at u1 u2 u4;cases e2:b9 v with
 |none=>simp[e2] at u1 u2 u4;simp -implicitDefEqProofs [rz,u1,u2,u3,u4,e2]
 |some n=>
 simp[e2] at u1 u2 u4;simp -implicitDefEqProofs [rz,u1,u2,u3,u4,e2];all_goals (repeat' split)<;>first|rfl|omega|(simp_all;done)|(simp_all;omega)|skip
def Ei(fs:List ax)(t:Int)(now:Int)(hb:wL aB fs<=1073741824)(h1:bI t)(h2:bI now):ev LI TT 21 [.row .ah 2 (fs.map aE),.int .i64 t,.int .i64 now]=some (.int .i64 ((cx fs t now)),[.dead,.dead,.dead]):=by
 rw[az (b:=qH) (rs:=[.t 6]) (n:=3) rfl rfl];have hfl:=cv (w:=aB) fs;have hg:=kn fs bR;have u1:=ld fs bR (by omega);have u2:=Ao ((bP fs bR).getD []) (by omega);have u3:=KH t now h1 h2;have u4:=Ky (sF fs) (since t now);try simp at u3 u4
 unfold cx;unfold sF at u4⊢;cases e1:bP fs bR with
 |none=>
  rw[e1] at u1 u2 u4;have e0:b9 []=none:=by simp[b9,iw,AK]
  simp[e0] at u1 u2 u4;simp -implicitDefEqProofs [qH,u1,u2,u3,u4]
 |some v=>
 rw[e1] at u1 u2 u4;cases e2:b9 v with
 |none=>simp[e2] at u1 u2 u4;simp -implicitDefEqProofs [qH,u1,u2,u3,u4,e2]
 |some n=>
 simp[e2] at u1 u2 u4;simp -implicitDefEqProofs [qH,u1,u2,u3,u4,e2];all_goals (repeat' split)<;>first|rfl|omega|(simp_all;done)|(simp_all;omega)|skip
end M
namespace M
open Go
def JB(o:Ob)(hb:wL wS o.values<=1073741824):aT (aD (ev LI TT) (aH TT) uS) [(1,.ptr .own (gD .ah o)),(3,.int .i64 0)]=if cj eZ (o.values)=true then some (.exit 0,[(1,.ptr .own (gD .ah o)),(3,.int .i64 (o.values).length),(49,.bool false)]) else some (.ret,[(2,.bool false)]):=by
 refine kC (f:=aD (ev LI TT) (aH TT) uS) (o.values) (λi=>[(1,.ptr .own (gD .ah o)),(3,.int .i64 i)]) eZ _ _ (λi b hi hl=>?_) ?_
 ·have hw:=cq i (by have:=cv (w:=wS) o.values;omega);obtain⟨_,rfl⟩:=br.1 hi;have hm:=IC (dy hl);have u1:=ED o.values[i] (by omega);try simp at u1
  simp -implicitDefEqProofs [uS,CE,hl,hw,u1];all_goals (repeat' split)<;>first|rfl|omega|(simp_all;done)|(simp_all;omega)|skip
 ·simp -implicitDefEqProofs [uS,CE]
def EA(o:Ob)(hb:dJ o<=1073741824):ev LI TT 18 [.agg (gD .ah o)]=some (.bool ((gm o)),[.dead]):=by
 rw[az (b:=ju) (rs:=[.t 2]) (n:=1) rfl rfl];have hw:dJ o=o.path.length+wL wS o.names+wL wS o.values+bl o.resp:=rfl;have qG:bl o.resp=wL aB o.resp.fields+o.resp.body.length:=rfl;have hn:=cv (w:=wS) o.names;have hv:=cv (w:=wS) o.values;have hvl:=Da o.resp.fields;unfold gm kE;have u1:=sN o.resp (by omega);try simp at u1
 have u2:=EF o.path (by omega);try simp at u2
 have u3:=EH o.names (by omega) (λw hw=>by have:=IC hw;omega);try simp at u3
 have u4:=Au o.resp.fields (by omega);try simp at u4
 have u5:=K0 o.names (dm o.resp.fields) (by omega) (by omega);try simp at u5
 have u6:=JB o (by omega);try simp at u6
 by_cases g1:cI o.resp=true;rotate_left;·simp -implicitDefEqProofs [ju,u1,u2,u3,u4,u5,u6,g1]
 by_cases g2:iR o.path=true;rotate_left;·simp -implicitDefEqProofs [ju,u1,u2,u3,u4,u5,u6,g1,g2]
 by_cases g3:0<=o.t;rotate_left;·simp -implicitDefEqProofs [ju,u1,u2,u3,u4,u5,u6,g1,g2,eq_false g3]
 by_cases g4:o.t<=1000000;rotate_left;·simp -implicitDefEqProofs [ju,u1,u2,u3,u4,u5,u6,g1,g2,eq_true g3,eq_false g4]
 by_cases g5:cj eY o.names=true;rotate_left;·simp -implicitDefEqProofs [ju,u1,u2,u3,u4,u5,u6,g1,g2,eq_true g3,eq_true g4,g5]
 by_cases g6:(o.names.length:Int)<=4;rotate_left;·simp -implicitDefEqProofs [ju,u1,u2,u3,u4,u5,u6,g1,g2,eq_true g3,eq_true g4,g5,eq_false g6]
 by_cases g7:o.names=dm o.resp.fields;rotate_left;·simp -implicitDefEqProofs [ju,u1,u2,u3,u4,u5,u6,g1,g2,eq_true g3,eq_true g4,g5,eq_true g6,eq_false g7]
 by_cases g8:o.values.length=o.names.length;rotate_left
 ·have mT:¬(o.values.length:Int)=o.names.length:=by omega
  simp -implicitDefEqProofs [ju,u1,u2,u3,u4,u5,u6,g1,g2,eq_true g3,eq_true g4,g5,eq_true g6,eq_true g7,eq_false g8,eq_false mT]
 have mT:(o.values.length:Int)=o.names.length:=by omega
 simp -implicitDefEqProofs [ju,u1,u2,u3,u4,u5,u6,g1,g2,eq_true g3,eq_true g4,g5,eq_true g6,eq_true g7,eq_true g8,eq_true mT];all_goals (repeat' split)<;>first|rfl|omega|(simp_all;done)|(simp_all;omega)|skip
end M
namespace M
open Go
end M
set_option maxHeartbeats 4000000
namespace M
open Go
end M
set_option maxHeartbeats 4000000
namespace M
open Go
end M
set_option maxHeartbeats 4000000
namespace M
open Go
def QT(l:List ai)(k:Nat)(n:Nat)(h:∀s∈l,s.length<=n):(l.getD k []).length<=n:=by
 rw[gP];cases hk:l[k]? with
 |none=>simp
 |some s=>exact h s (me hk)
def dW(c:aN)(l:List ai)(n:Nat)(h1:0<l.length)(h2:l.length<=1000)(h:∀s∈l,s.length<=n):∃(c':aN) (s:ai),s.length<=n/\ev LI TT 151 [.ptr .own (aJ c),.row .ah 1 (l.map eS)]=some (.str ⟨s.toArray⟩,[.ptr .own (aJ c'),.dead]):=
 ⟨_,_,QT _ _ n h,EE c l h1 (by omega)⟩
def gu(c:aN)(m:Int)(h1:0<m)(h2:m<=9223372036854775807):∃(c':aN) (n:Int),0<=n/\n<m/\ev LI TT 110 [.ptr .own (aJ c),.int .i64 m]=some (.int .i64 n,[.ptr .own (aJ c'),.dead]):=
 ⟨_,_,(og c m h1 h2).1,(og c m h1 h2).2,sO c m h2⟩
def vD(c:aN)(m:Int)(h2:m<=9223372036854775807):∃(c':aN) (b:Bool),ev LI TT 73 [.ptr .own (aJ c),.int .i64 m]=some (.bool b,[.ptr .own (aJ c'),.dead]):=
 ⟨_,_,KW c m h2⟩
def zx(c:aN)(l:List Int)(h1:0<l.length)(h2:l.length<=1000):∃(c':aN) (s:Int),s∈l/\ev LI TT 124 [.ptr .own (aJ c),.row .ah 1 (l.map eI)]=some (.int .i64 s,[.ptr .own (aJ c'),.dead]):=by refine⟨_,_,?_,KX c l h1 (by omega)⟩;have b:=og c l.length (by omega) (by omega);rw[gP,bH (by omega)];exact dy _
def IU(c:aN):∃(c':aN) (n:Int),bI n/\ev LI TT 57 [.ptr .own (aJ c)]=some (.int .i64 n,[.ptr .own (aJ c')]):=by
 obtain⟨c1,b,u1⟩:=vD c 15 (by omega);cases b;·obtain⟨c2,n,h1,h2,u2⟩:=gu c1 40 (by omega) (by omega);refine⟨c2,n,(by unfold bI;omega),?_⟩;rw[az (b:=rP) (rs:=[.t 2]) (n:=1) rfl rfl];simp -implicitDefEqProofs [rP,u1,u2]
 ·obtain⟨c2,n,hn,u2⟩:=zx c1 [-1,1000000,1000001,9223372036854775807,-9223372036854775808] (by simp) (by simp);refine⟨c2,n,(by unfold bI;simp at hn;omega),?_⟩;simp at u2;rw[az (b:=rP) (rs:=[.t 2]) (n:=1) rfl rfl];simp -implicitDefEqProofs [rP,u1,u2,bZ,bW]
end M
set_option maxHeartbeats 4000000
namespace M
open Go
def vr:List ai:=[[32],[44],[97],[90],[55],[45],[61],[120],[58],[1],[64],[91]]
def RN(k:Nat)(h:k<12):∃b,vr.getD k []=[b]:=by
 have:k=0\/k=1\/k=2\/k=3\/k=4\/k=5\/k=6\/k=7\/k=8\/k=9\/k=10\/k=11:=by omega
 rcases this with rfl|rfl|rfl|rfl|rfl|rfl|rfl|rfl|rfl|rfl|rfl|rfl<;>exact⟨_,rfl⟩
def T0(c:aN):∃(c':aN) (t:ai),t.length<=100/\ev LI TT 228 [.ptr .own (aJ c)]=some (.str ⟨t.toArray⟩,[.ptr .own (aJ c')]):=by
 obtain⟨⟨⟨c',i⟩,out⟩,⟨hs,hi⟩,e⟩:=Pd (f:=aD (ev LI TT) (aH TT) yI)
  (λ(g:(aN×Nat)×ai)=>[(0,.av 100000 [] 0 0),(3,.row .own 1 (g.2.map eU)),(4,.int .i64 g.1.2),(100000,.ptr .own (aJ g.1.1))])
  (λg=>200 - g.1.2) (λg=>g.2.length=g.1.2/\g.1.2<=20)
  (λg=>[(0,.av 100000 [] 0 0),(3,.row .own 1 (g.2.map eU)),(4,.int .i64 g.1.2),(9,.bool false),(100000,.ptr .own (aJ g.1.1))])
  (λg hg=>by
   obtain⟨⟨c,i⟩,out⟩:=g;obtain⟨h1,h2⟩:=hg;simp only at h1 h2;have b:=og c 14 (by omega) (by omega);have e1:=sO c 14 (by omega);obtain⟨v,hv⟩:∃v,gT c 14=v:=⟨_,rfl⟩;rw[hv] at e1 b;have e2:=EE (fE c 14) vr (by decide) (by decide);have b2:=og (fE c 14) 12 (by omega) (by omega);obtain⟨x,hx⟩:=RN (gT (fE c 14) 12).toNat (by omega);have e3:(gT (fE c 14) vr.length)=gT (fE c 14) 12:=rfl;have e4:(fE (fE c 14) vr.length)=fE (fE c 14) 12:=rfl;rw[e3,e4,hx] at e2;simp[vr] at e2;by_cases h:(i:Int)<v;·right;have hw:=cq i (by omega);refine⟨((fE (fE c 14) 12,i+1),out++[x]),⟨by simp[h1],by simp only;omega⟩,by simp only;omega,?_⟩;simp -implicitDefEqProofs [yI,CL,e1,e2,h,hw,cl,h1,(by omega:i+1<=140737488355328)]
   ·left;refine⟨((fE c 14,i),out),⟨h1,h2⟩,?_⟩;simp -implicitDefEqProofs [yI,CL,e1,h])
  ((c,0),[]) ⟨rfl,by simp⟩
 refine⟨c',out,by simp only at hs hi;omega,?_⟩;rw[az (b:=yJ) (rs:=[.t 2]) (n:=1) rfl rfl];have hu:lX (out.map eU)=some out:=C8 out;simp only at hs hi;simp at e;simp -implicitDefEqProofs [yJ,e,hu,(by omega:out.length<=9223372036854775807)]
end M
set_option maxHeartbeats 4000000
namespace M
open Go
def ue{xt:Nat}{γ:Type}{f:af->bx}(st:γ->af)(μ:γ->Nat)(Inv:γ->Prop)(E:γ->af)
  (h:∀g,Inv g->(∃g',Inv g'/\f (st g)=some (.exit xt,E g'))\/∃g',Inv g'/\μ g'<μ g/\f (st g)=some (.normal,st g'))(g:γ)(hg:Inv g):∃g',Inv g'/\aT f (st g)=some (.exit xt,E g'):=by
 suffices H:∀n g,μ g=n->Inv g->∃g',Inv g'/\aT f (st g)=some (.exit xt,E g') from H _ g rfl hg
 intro n;induction n using Nat.strongRecOn with
 |ind n ih=>
  intro g hn hI;rcases h g hI with ⟨g',h1,h2⟩|⟨g',h1,h2,h3⟩;·exact⟨g',h1,by rw[dS,h2];rfl⟩
  ·obtain⟨g2,h4,h5⟩:=ih _ (by omega) g' rfl h1;exact⟨g2,h4,by rw[dS,h3];exact h5⟩
def B3{f:af->bx}{s s':af}(h:f s=f s'):aT f s=aT f s':=by rw[dS,h,<-dS]
def zq{l:List ax}{m:Nat}(h:∀f∈l,aB f<=100)(hl:l.length<=m):wL aB l<=m*101:=by
 have:wL aB l<=l.length*101:=by
  clear hl;induction l with
  |nil=>simp[wL]
  |cons a l ih=>have h1:=ih λf hf=>h f (bU _ hf);have h2:=h a bE;simp only[wL,cw,aS,nR] at h1⊢;omega
 have:l.length*101<=m*101:=j0 _ hl;omega
def Dc(c:aN):∃(c':aN) (f:ax),aB f<=100/\ev LI TT 224 [.ptr .own (aJ c)]=some (.agg (aE f),[.ptr .own (aJ c')]):=by
 obtain⟨c1,k,h1,h2,u1⟩:=gu c 9 (by omega) (by omega);by_cases g0:k=0;·subst g0;obtain⟨c2,s,hs,u2⟩:=dW c1 [[109,97,120,45,97,103,101,61,53],[109,97,120,45,97,103,101,61,50,48],[110,111,45,115,116,111,114,101],[110,111,45,99,97,99,104,101],[112,114,105,118,97,116,101],[109,97,120,45,97,103,101,61,57,44,32,109,117,115,116,45,114,101,118,97,108,105,100,97,116,101],[109,97,120,45,97,103,101,61,120],[77,65,88,45,65,71,69,61,51]] 30 (by simp) (by simp) (by simp);refine⟨c2,⟨[99,97,99,104,101,45,99,111,110,116,114,111,108],s⟩,(by simp[aB];omega),?_⟩;simp at u2;rw[az (b:=fq) (rs:=_) (n:=1) rfl rfl];simp -implicitDefEqProofs [fq,u1,u2,bZ,bW,b7]
 by_cases g1:k=1;·subst g1;obtain⟨c2,s,hs,u2⟩:=dW c1 [[97],[98]] 30 (by simp) (by simp) (by simp);refine⟨c2,⟨[101,116,97,103],s⟩,(by simp[aB];omega),?_⟩;simp at u2;rw[az (b:=fq) (rs:=_) (n:=1) rfl rfl];simp -implicitDefEqProofs [fq,u1,u2,bZ,bW,b7]
 by_cases g2:k=2;·subst g2;obtain⟨c2,s,hs,u2⟩:=dW c1 [[108,97,110,103],[108,97,110,103,44,32,107,105,110,100],[42]] 30 (by simp) (by simp) (by simp);refine⟨c2,⟨[118,97,114,121],s⟩,(by simp[aB];omega),?_⟩;simp at u2;rw[az (b:=fq) (rs:=_) (n:=1) rfl rfl];simp -implicitDefEqProofs [fq,u1,u2,bZ,bW,b7]
 by_cases g3:k=3;·subst g3;obtain⟨c2,s,hs,u2⟩:=dW c1 [[100,101],[101,110]] 30 (by simp) (by simp) (by simp);refine⟨c2,⟨[108,97,110,103],s⟩,(by simp[aB];omega),?_⟩;simp at u2;rw[az (b:=fq) (rs:=_) (n:=1) rfl rfl];simp -implicitDefEqProofs [fq,u1,u2,bZ,bW,b7]
 by_cases g4:k=4;·subst g4;obtain⟨c2,s,hs,u2⟩:=dW c1 [[120],[121]] 30 (by simp) (by simp) (by simp);refine⟨c2,⟨[107,105,110,100],s⟩,(by simp[aB];omega),?_⟩;simp at u2;rw[az (b:=fq) (rs:=_) (n:=1) rfl rfl];simp -implicitDefEqProofs [fq,u1,u2,bZ,bW,b7]
 by_cases g5:k=5;·subst g5;obtain⟨c2,s,hs,u2⟩:=dW c1 [[48],[51],[57,48],[120]] 30 (by simp) (by simp) (by simp);refine⟨c2,⟨[97,103,101],s⟩,(by simp[aB];omega),?_⟩;simp at u2;rw[az (b:=fq) (rs:=_) (n:=1) rfl rfl];simp -implicitDefEqProofs [fq,u1,u2,bZ,bW,b7]
 by_cases g6:k=6;·subst g6;obtain⟨c2,s,hs,u2⟩:=dW c1 [[97],[98]] 30 (by simp) (by simp) (by simp);refine⟨c2,⟨[105,102,45,110,111,110,101,45,109,97,116,99,104],s⟩,(by simp[aB];omega),?_⟩;simp at u2;rw[az (b:=fq) (rs:=_) (n:=1) rfl rfl];simp -implicitDefEqProofs [fq,u1,u2,bZ,bW,b7]
 ·obtain⟨c2,s,hs,u2⟩:=dW c1 [[120,45,97],[120,45,98],[100,97,116,101]] 30 (by simp) (by simp) (by simp);obtain⟨c3,v,hv,u3⟩:=dW c2 [[49],[116,119,111,32,119,111,114,100,115],[113]] 30 (by simp) (by simp) (by simp);refine⟨c3,⟨s,v⟩,(by simp[aB];omega),?_⟩;simp at u2 u3;rw[az (b:=fq) (rs:=_) (n:=1) rfl rfl];simp -implicitDefEqProofs [fq,u1,u2,u3,g0,g1,g2,g3,g4,g5,g6,bZ,bW,b7]
def IL(c:aN):∃(c':aN) (fs:List ax),fs.length<=5/\(∀f∈fs,aB f<=100)/\ev LI TT 223 [.ptr .own (aJ c)]=some (.row .own 2 (fs.map aE),[.ptr .own (aJ c')]):=by
 obtain⟨⟨⟨c',i⟩,out⟩,⟨h1,h2,h3⟩,e⟩:=ue (xt:=0) (f:=aD (ev LI TT) (aH TT) vf)
  (λ(g:(aN×Nat)×List ax)=>[(0,.av 100000 [] 0 0),(3,.row .own 2 (g.2.map aE)),(4,.int .i64 g.1.2),(100000,.ptr .own (aJ g.1.1))])
  (λg=>20 - g.1.2) (λg=>g.2.length<=g.1.2/\g.1.2<=5/\∀f∈g.2,aB f<=100)
  (λg=>[(0,.av 100000 [] 0 0),(3,.row .own 2 (g.2.map aE)),(4,.int .i64 g.1.2),(10,.bool false),(100000,.ptr .own (aJ g.1.1))])
  (λg hg=>by
   obtain⟨⟨c,i⟩,out⟩:=g;obtain⟨h1,h2,h3⟩:=hg;simp only at h1 h2 h3;obtain⟨c1,v,hv0,hv,e1⟩:=gu c 5 (by omega) (by omega);by_cases h:(i:Int)<v
   ·right;have hw:=cq i (by omega);obtain⟨c2,f,hf,e2⟩:=Dc c1;have e3:=qd out f.name (by omega);try simp at e2
    try simp at e3
    have h8:(out.length+1)*32<=140737488355328:=by omega
    by_cases ha:cV (ck out f.name)<0
    ·refine⟨((c2,i+1),out++[f]),⟨by simp;omega,by simp only;omega,λx hx=>?_⟩,by simp only;omega,?_⟩
     ·rcases dz.1 hx with hx|hx;·exact h3 x hx
      ·simp at hx;rw[hx];exact hf
     ·simp -implicitDefEqProofs [vf,yS,e1,e2,e3,h,hw,ha,cl,h8]
    ·refine⟨((c2,i+1),out),⟨by simp only;omega,by simp only;omega,h3⟩,by simp only;omega,?_⟩;simp -implicitDefEqProofs [vf,yS,e1,e2,e3,h,hw,ha,cl,h8]
   ·left;refine⟨((c1,i),out),⟨h1,h2,h3⟩,?_⟩;simp -implicitDefEqProofs [vf,yS,e1,h])
  ((c,0),[]) ⟨by simp,by simp,by simp⟩
 refine⟨c',out,by simp only at h1 h2;omega,h3,?_⟩;rw[az (b:=yT) (rs:=_) (n:=1) rfl rfl];simp at e;simp -implicitDefEqProofs [yT,e]
def IK(c:aN):∃(c':aN) (fs:List ax),fs.length<=10/\(∀f∈fs,aB f<=100)/\ev LI TT 152 [.ptr .own (aJ c)]=some (.row .own 2 (fs.map aE),[.ptr .own (aJ c')]):=by
 obtain⟨c1,fs,h1,h2,u1⟩:=IL c;obtain⟨c2,k,k1,k2,u2⟩:=gu c1 15 (by omega) (by omega);try simp at u1
 by_cases g0:k=0
 ·subst g0;obtain⟨c3,f,hf,u3⟩:=Dc c2;obtain⟨c4,f2,fH,u4⟩:=Dc c3;refine⟨c4,fs++[f,f2],by simp;omega,λx hx=>?_,?_⟩
  ·rcases dz.1 hx with hx|hx;·exact h2 x hx
   ·simp at hx;rcases hx with rfl|rfl<;>assumption
  ·simp at u3 u4;have h8:(fs.length+2)*32<=140737488355328:=by omega
   rw[az (b:=kP) (rs:=_) (n:=1) rfl rfl];simp -implicitDefEqProofs [kP,u1,u2,u3,u4,cl,h8]
 by_cases g1:k=1
 ·subst g1;obtain⟨c3,n,hn,u3⟩:=dW c2 [[],[65],[99,111,110,116,101,110,116,45,108,101,110,103,116,104]] 30 (by simp) (by simp) (by simp);obtain⟨c4,v,hv,u4⟩:=dW c3 [[],[32,97],[49]] 30 (by simp) (by simp) (by simp);refine⟨c4,fs++[⟨n,v⟩],by simp;omega,λx hx=>?_,?_⟩
  ·rcases dz.1 hx with hx|hx;·exact h2 x hx
   ·simp at hx;rw[hx];simp[aB];omega
  ·simp at u3 u4;have h8:(fs.length+1)*32<=140737488355328:=by omega
   rw[az (b:=kP) (rs:=_) (n:=1) rfl rfl];simp -implicitDefEqProofs [kP,u1,u2,u3,u4,cl,h8,bZ,bW,b7]
 by_cases g2:k=2
 ·subst g2
  obtain⟨⟨c',out⟩,⟨m1,m2⟩,e⟩:=ue (xt:=1) (f:=aD (ev LI TT) (aH TT) nK)
   (λ(g:aN×List ax)=>[(0,.av 100000 [] 0 0),(3,.row .own 2 (g.2.map aE)),(100000,.ptr .own (aJ g.1))])
   (λg=>20 - g.2.length) (λg=>g.2.length<=9/\∀f∈g.2,aB f<=100)
   (λg=>[(0,.av 100000 [] 0 0),(3,.row .own 2 (g.2.map aE)),(36,.bool false),(100000,.ptr .own (aJ g.1))])
   (λg hg=>by
    obtain⟨c,out⟩:=g;obtain⟨h1,h2⟩:=hg;simp only at h1 h2;obtain⟨c',v,v0,v1,e1⟩:=gu c 2 (by omega) (by omega);have hw:IntKind.i64.wrap (8+v)=8+v:=cD (by omega) (by omega);by_cases h:(out.length:Int)<8+v
    ·right;have e2:=qc (out.length:Int);have hl:=uz (out.length:Int);have h8:(out.length+1)*32<=140737488355328:=by omega
     have hx:1+(bG (out.length:Int)).length<=9223372036854775807:=by omega
     have hs:(⟨#[110]⟩:ByteArray)++⟨(bG (out.length:Int)).toArray⟩=⟨(110::bG (out.length:Int)).toArray⟩:=by rw[show (⟨#[110]⟩:ByteArray)=⟨([110]:ai).toArray⟩ from rfl,kT];simp
     refine⟨(c',out++[⟨110::bG (out.length:Int),[118]⟩]),⟨by simp;omega,λx hx=>?_⟩,by simp;omega,?_⟩
     ·rcases dz.1 hx with hx|hx;·exact h2 x hx
      ·simp at hx;rw[hx];simp[aB];omega
     ·simp -implicitDefEqProofs [nK,vg,e1,e2,h,hw,cl,h8,hx,hs]
    ·left;refine⟨(c',out),⟨h1,h2⟩,?_⟩;simp -implicitDefEqProofs [nK,vg,e1,h,hw])
   (c2,fs) ⟨by simp only;omega,h2⟩
  have hst:aD (ev LI TT) (aH TT) nK [(0,.av 100000 [] 0 0),(3,.row .own 2 (fs.map aE)),(29,.bool true),(100000,.ptr .own (aJ c2))]=aD (ev LI TT) (aH TT) nK [(0,.av 100000 [] 0 0),(3,.row .own 2 (fs.map aE)),(100000,.ptr .own (aJ c2))]:=by
   obtain⟨c',v,v0,v1,e1⟩:=gu c2 2 (by omega) (by omega);have hw:IntKind.i64.wrap (8+v)=8+v:=cD (by omega) (by omega);by_cases h:(fs.length:Int)<8+v
   ·have e2:=qc (fs.length:Int);have hl:=uz (fs.length:Int);have h8:(fs.length+1)*32<=140737488355328:=by omega
    have hx:1+(bG (fs.length:Int)).length<=9223372036854775807:=by omega
    simp -implicitDefEqProofs [nK,vg,e1,e2,h,hw,cl,h8,hx]
   ·simp -implicitDefEqProofs [nK,vg,e1,h,hw]
  have jN:=B3 hst;rw[e] at jN;refine⟨c',out,by simp only at m1;omega,m2,?_⟩;try simp at jN
  rw[az (b:=kP) (rs:=_) (n:=1) rfl rfl];simp -implicitDefEqProofs [kP,u1,u2,jN]
 ·refine⟨c2,fs,by omega,h2,?_⟩;rw[az (b:=kP) (rs:=_) (n:=1) rfl rfl];simp -implicitDefEqProofs [kP,u1,u2,g0,g1,g2]
def IP(c:aN):∃(c':aN) (t:ai),t.length<=100/\ev LI TT 165 [.ptr .own (aJ c)]=some (.str ⟨t.toArray⟩,[.ptr .own (aJ c')]):=by
 obtain⟨c1,b,u1⟩:=vD c 2 (by omega);cases b
 ·obtain⟨c2,t,ht,u2⟩:=T0 c1;refine⟨c2,t,ht,?_⟩;try simp at u2
  rw[az (b:=rL) (rs:=_) (n:=1) rfl rfl];simp -implicitDefEqProofs [rL,u1,u2]
 ·obtain⟨c2,t,ht,u2⟩:=dW c1 [[],[104,101,108,108,111],[13,10,13,10],[97,0,98],[111,110,101,32,116,119,111]] 100 (by simp) (by simp) (by simp);refine⟨c2,t,ht,?_⟩;simp at u2;rw[az (b:=rL) (rs:=_) (n:=1) rfl rfl];simp -implicitDefEqProofs [rL,u1,u2,bZ,bW,b7]
def IQ(c:aN):∃(c':aN) (r:bh),bl r<=2000/\bI r.status/\ev LI TT 198 [.ptr .own (aJ c)]=some (.agg (cy .own r),[.ptr .own (aJ c')]):=by
 obtain⟨c1,st,hst,u1⟩:=zx c [200,200,200,200,404,500,304] (by simp) (by simp);obtain⟨c2,fs,h1,h2,u2⟩:=IL c1;obtain⟨c3,t,ht,u3⟩:=IP c2;obtain⟨c4,b,u4⟩:=vD c3 2 (by omega);have hw:=zq h2 h1;have hs:bI st:=by unfold bI;simp at hst;omega
 try simp at u1
 try simp at u2
 try simp at u3
 cases b;·refine⟨c4,⟨st,fs,t⟩,by simp only[bl];omega,hs,?_⟩;rw[az (b:=rN) (rs:=_) (n:=1) rfl rfl];simp -implicitDefEqProofs [rN,u1,u2,u3,u4,bZ,bW,b7]
 ·obtain⟨c5,v,hv,u5⟩:=dW c4 [[109,97,120,45,97,103,101,61,53],[109,97,120,45,97,103,101,61,50,48],[109,97,120,45,97,103,101,61,57]] 30 (by simp) (by simp) (by simp);have u6:=wk fs [99,97,99,104,101,45,99,111,110,116,114,111,108] v (by omega);have hp:=q9 fs [99,97,99,104,101,45,99,111,110,116,114,111,108] v;refine⟨c5,⟨st,dh fs [99,97,99,104,101,45,99,111,110,116,114,111,108] v,t⟩,?_,hs,?_⟩;·simp only[bl];simp at hp;omega
  ·simp at u5;try simp at u6
   rw[az (b:=rN) (rs:=_) (n:=1) rfl rfl];simp -implicitDefEqProofs [rN,CN,CO,u1,u2,u3,u4,u5,u6,bZ,bW,b7]
end M
set_option maxHeartbeats 8000000
namespace M
open Go
def Dd(c:aN):∃(c':aN) (q:Rq),bY q<=2000/\bI q.method/\ev LI TT 75 [.ptr .own (aJ c)]=some (.agg (cF .own q),[.ptr .own (aJ c')]):=by
 obtain⟨c1,m,hm,u1⟩:=zx c [1,1,1,1,2,3,4] (by simp) (by simp);obtain⟨c2,p,hp,u2⟩:=dW c1 [[47],[47,97],[47,97,47,98],[47,98]] 10 (by simp) (by simp) (by simp);have Gb:bI m:=by unfold bI;simp at hm;omega
 obtain⟨⟨⟨c3,i⟩,out⟩,⟨h1,h2,h3⟩,e⟩:=ue (xt:=0) (f:=aD (ev LI TT) (aH TT) nO)
  (λ(g:(aN×Nat)×List ax)=>[(0,.av 100000 [] 0 0),(2,.ptr .own [.int .i64 0,.str ⟨#[]⟩,.row .own 2 [],.str ⟨#[]⟩]),(3,.ptr .own (cF .own ⟨m,p,g.2,[]⟩)),(4,.int .i64 g.1.2),(100000,.ptr .own (aJ g.1.1))])
  (λg=>20 - g.1.2) (λg=>g.2.length<=g.1.2/\g.1.2<=4/\∀f∈g.2,aB f<=100)
  (λg=>[(0,.av 100000 [] 0 0),(2,.ptr .own [.int .i64 0,.str ⟨#[]⟩,.row .own 2 [],.str ⟨#[]⟩]),(3,.ptr .own (cF .own ⟨m,p,g.2,[]⟩)),(4,.int .i64 g.1.2),(17,.bool false),(100000,.ptr .own (aJ g.1.1))])
  (λg hg=>by
   obtain⟨⟨c,i⟩,out⟩:=g;obtain⟨h1,h2,h3⟩:=hg;simp only at h1 h2 h3;obtain⟨c1,v,hv0,hv,e1⟩:=gu c 4 (by omega) (by omega);by_cases h:(i:Int)<v
   ·right;have hw:=cq i (by omega);obtain⟨c2,f,hf,e2⟩:=dW c1 [[108,97,110,103],[107,105,110,100],[99,97,99,104,101,45,99,111,110,116,114,111,108],[105,102,45,110,111,110,101,45,109,97,116,99,104],[120,45,97]] 20 (by simp) (by simp) (by simp);have e3:=qd out f (by omega);simp at e2;try simp at e3
    have h8:(out.length+1)*32<=140737488355328:=by omega
    by_cases ha:cV (ck out f)<0
    ·obtain⟨c3,w,qG,e4⟩:=dW c2 [[100,101],[101,110]] 20 (by simp) (by simp) (by simp);simp at e4;by_cases g1:f=[107,105,110,100]
     ·obtain⟨c4,w2,lG,e5⟩:=dW c3 [[120],[121]] 20 (by simp) (by simp) (by simp);simp at e5;subst g1;refine⟨((c4,i+1),out++[⟨[107,105,110,100],w2⟩]),⟨by simp;omega,by simp only;omega,λx hx=>?_⟩,by simp only;omega,?_⟩
      ·rcases dz.1 hx with hx|hx;·exact h3 x hx
       ·simp at hx;rw[hx];simp[aB];omega
      ·simp -implicitDefEqProofs [nO,pH,e1,e2,e3,e4,e5,h,hw,ha,cl,h8,bZ,bW,b7]
     by_cases g2:f=[99,97,99,104,101,45,99,111,110,116,114,111,108]
     ·obtain⟨c4,w2,lG,e5⟩:=dW c3 [[110,111,45,99,97,99,104,101],[110,111,45,115,116,111,114,101],[109,97,120,45,97,103,101,61,51]] 20 (by simp) (by simp) (by simp);simp at e5;subst g2;refine⟨((c4,i+1),out++[⟨[99,97,99,104,101,45,99,111,110,116,114,111,108],w2⟩]),⟨by simp;omega,by simp only;omega,λx hx=>?_⟩,by simp only;omega,?_⟩
      ·rcases dz.1 hx with hx|hx;·exact h3 x hx
       ·simp at hx;rw[hx];simp[aB];omega
      ·simp -implicitDefEqProofs [nO,pH,e1,e2,e3,e4,e5,h,hw,ha,cl,h8,bZ,bW,b7]
     by_cases g3:f=[105,102,45,110,111,110,101,45,109,97,116,99,104]
     ·obtain⟨c4,w2,lG,e5⟩:=dW c3 [[97],[98]] 20 (by simp) (by simp) (by simp);simp at e5;subst g3;refine⟨((c4,i+1),out++[⟨[105,102,45,110,111,110,101,45,109,97,116,99,104],w2⟩]),⟨by simp;omega,by simp only;omega,λx hx=>?_⟩,by simp only;omega,?_⟩
      ·rcases dz.1 hx with hx|hx;·exact h3 x hx
       ·simp at hx;rw[hx];simp[aB];omega
      ·simp -implicitDefEqProofs [nO,pH,e1,e2,e3,e4,e5,h,hw,ha,cl,h8,bZ,bW,b7]
     ·refine⟨((c3,i+1),out++[⟨f,w⟩]),⟨by simp;omega,by simp only;omega,λx hx=>?_⟩,by simp only;omega,?_⟩
      ·rcases dz.1 hx with hx|hx;·exact h3 x hx
       ·simp at hx;rw[hx];simp[aB];omega
      ·simp -implicitDefEqProofs [nO,pH,e1,e2,e3,e4,h,hw,ha,cl,h8,bZ,bW,b7,g1,g2,g3]
    ·refine⟨((c2,i+1),out),⟨by simp only;omega,by simp only;omega,h3⟩,by simp only;omega,?_⟩;simp -implicitDefEqProofs [nO,pH,e1,e2,e3,h,hw,ha,cl,h8,bZ,bW,b7]
   ·left;refine⟨((c1,i),out),⟨h1,h2,h3⟩,?_⟩;simp -implicitDefEqProofs [nO,pH,e1,h])
  ((c2,0),[]) ⟨by simp,by simp,by simp⟩
 simp only at h1 h2 h3;have hwf:=zq (m:=4) h3 (by omega);try simp at u1
 try simp at u2
 try simp at e
 by_cases g3:m=3
 ·obtain⟨c4,t,ht,u4⟩:=IP c3;refine⟨c4,⟨m,p,out,t⟩,by simp only[bY];omega,Gb,?_⟩;try simp at u4
  rw[az (b:=rM) (rs:=_) (n:=1) rfl rfl];simp -implicitDefEqProofs [rM,u1,u2,e,u4,eq_true g3,bZ,bW,b7]
 ·refine⟨c3,⟨m,p,out,[]⟩,by simp only[bY];simp;omega,Gb,?_⟩;rw[az (b:=rM) (rs:=_) (n:=1) rfl rfl];simp -implicitDefEqProofs [rM,u1,u2,e,g3,bZ,bW,b7]
def mL(fs:List ax)(n:ai):List ax:=(foldI (λi (g:List ax) b=>if ((i:Nat):Int)=cV (ck fs n) then g else g++[b]) 0 fs [])
def AL(a:Int):∀(fs:List ax) (i:Nat) (g:List ax),wL aB (foldI (λi (g:List ax) b=>if ((i:Nat):Int)=a then g else g++[b]) i fs g)<=wL aB g+wL aB fs/\(foldI (λi (g:List ax) b=>if ((i:Nat):Int)=a then g else g++[b]) i fs g).length<=g.length+fs.length
 |[],i,g=>by simp[foldI,wL]
 |f::fs,i,g=>by
  simp only[foldI];have h:=AL a fs (i+1) (if ((i:Nat):Int)=a then g else g++[f]);split at h
  ·rename_i hh;rw[aA hh];refine⟨gv h.1 ?_,gv h.2 ?_⟩;·simp only[wL,cw,aS,nR];omega
   ·simp only[cw];omega
  ·rename_i hh;rw[aC hh];refine⟨gv h.1 ?_,gv h.2 ?_⟩;·simp only[wL,cw,aS,nR,fT,jb,Dn,iA,jA,zz];omega
   ·simp only[cw,fT,iA];omega
def E5(fs:List ax)(n:ai):wL aB (mL fs n)<=wL aB fs:=by have:=(AL (cV (ck fs n)) fs 0 []).1;unfold mL;simp[wL] at this⊢;exact this
def Lo(fs:List ax)(n:ai):(mL fs n).length<=fs.length:=by have:=(AL (cV (ck fs n)) fs 0 []).2;unfold mL;simpa using this
def Ju(fs:List ax)(a:Int)(hb:fs.length<=1000000)(g:List ax)(hinv:g.length<=0):aT (aD (ev LI TT) (aH TT) rA) [(0,.row .ah 2 (fs.map aE)),(5,.int .i64 a),(6,.row .own 2 (g.map aE)),(7,.int .i64 0)]=some (.exit 0,[(0,.row .ah 2 (fs.map aE)),(5,.int .i64 a),(6,.row .own 2 ((foldI (λi g b=>if ((i:Nat):Int)=a then g else g++[b]) 0 (fs) g).map aE)),(7,.int .i64 (fs).length),(15,.bool false)]):=by
 refine xX (f:=aD (ev LI TT) (aH TT) rA) (fs) (λi (g:List ax)=>[(0,.row .ah 2 (fs.map aE)),(5,.int .i64 a),(6,.row .own 2 (g.map aE)),(7,.int .i64 i)]) (λi g b=>if ((i:Nat):Int)=a then g else g++[b]) (λg=>[(0,.row .ah 2 (fs.map aE)),(5,.int .i64 a),(6,.row .own 2 (g.map aE)),(7,.int .i64 (fs).length),(15,.bool false)]) (λi (g:List ax)=>g.length<=i) g hinv (λi b g hi hl hinv=>?_) (λi b g hi hinv=>?_) (λg hinv=>?_)
 ·have hw:=cq i (by first|omega|(simp at hl;omega));obtain⟨_,rfl⟩:=br.1 hi;have h8:(g.length+1)*32<=140737488355328:=by omega
  by_cases ha:((i:Nat):Int)=a;·subst ha;simp -implicitDefEqProofs [rA,yp,hl,hw]
  simp -implicitDefEqProofs [rA,yp,hl,hw,ha,cl,h8];all_goals (repeat' split)<;>first|rfl|omega|(simp_all;done)|(simp_all;omega)|skip
 ·split<;>(try simp)<;>omega
 ·simp -implicitDefEqProofs [rA,yp]
def Ev(fs:List ax)(n:ai)(hb:fs.length<=1000000):ev LI TT 199 [.row .ah 2 (fs.map aE),.str ⟨n.toArray⟩]=some (.row .own 2 ((mL fs n).map aE),[.dead,.dead]):=by
 rw[az (b:=yq) (rs:=[.t 4]) (n:=2) rfl rfl];unfold mL;have u1:=qd fs n (by omega);try simp at u1
 have u2:=Ju fs (cV (ck fs n)) hb [] (by simp);try simp at u2
 simp -implicitDefEqProofs [yq,u1,u2];all_goals (repeat' split)<;>first|rfl|omega|(simp_all;done)|(simp_all;omega)|skip
end M
set_option maxHeartbeats 8000000
namespace M
open Go
def IM(c:aN):∃(c':aN) (q:Rq),bY q<=10000/\bI q.method/\ev LI TT 55 [.ptr .own (aJ c)]=some (.agg (cF .own q),[.ptr .own (aJ c')]):=by
 obtain⟨c1,⟨m,p,fs,bd⟩,hq,hm,u1⟩:=Dd c;obtain⟨c3,k,k1,k2,u2⟩:=gu c1 20 (by omega) (by omega);simp only[bY] at hq;simp only at hm;try simp at u1
 by_cases g0:k=0;·subst g0;obtain⟨c4,n,n1,n2,u3⟩:=gu c3 7 (by omega) (by omega);have hw:IntKind.i64.wrap (n - 1)=n - 1:=cD (by omega) (by omega);refine⟨c4,⟨n - 1,p,fs,bd⟩,by simp only[bY];omega,by unfold bI;simp only;omega,?_⟩;rw[az (b:=jv) (rs:=_) (n:=1) rfl rfl];simp -implicitDefEqProofs [jv,jW,jX,u1,u2,u3,hw,bZ,bW,b7]
 by_cases g1:k=1;·subst g1;obtain⟨c4,s,hs,u3⟩:=dW c3 [[],[97],[47,32,98],[47,127],[47,48,49,50,51,52,53,54,55,56,57,48,49,50,51,52,53,54,55,56,57,48,49,50,51,52,53,54,55,56,57,48,49,50,51,52,53,54,55,56,57,48,49,50,51,52,53,54,55,56,57,48,49,50,51,52,53,54,55,56,57]] 100 (by simp) (by simp) (by simp);refine⟨c4,⟨m,s,fs,bd⟩,by simp only[bY];omega,hm,?_⟩;simp at u3;rw[az (b:=jv) (rs:=_) (n:=1) rfl rfl];simp -implicitDefEqProofs [jv,jW,jX,u1,u2,u3,bZ,bW,b7]
 by_cases g2:k=2
 ·subst g2;obtain⟨c4,mS,l1,l2,u3⟩:=IK c3;have hwf:=zq (m:=10) l2 l1;refine⟨c4,⟨m,p,mS,bd⟩,by simp only[bY];omega,hm,?_⟩;try simp at u3
  rw[az (b:=jv) (rs:=_) (n:=1) rfl rfl];simp -implicitDefEqProofs [jv,jW,jX,u1,u2,u3,bZ,bW,b7]
 by_cases g3:k=3
 ·subst g3
  obtain⟨⟨c',Ai⟩,hb',e⟩:=ue (xt:=1) (f:=aD (ev LI TT) (aH TT) nM)
   (λ(g:aN×ai)=>[(0,.av 100000 [] 0 0),(2,.ptr .own [.int .i64 0,.str ⟨#[]⟩,.row .own 2 [],.str ⟨#[]⟩]),(3,.ptr .own (cF .own ⟨m,p,fs,g.2⟩)),(100000,.ptr .own (aJ g.1))])
   (λg=>3000 - g.2.length) (λg=>g.2.length<=2000)
   (λg=>[(0,.av 100000 [] 0 0),(2,.ptr .own [.int .i64 0,.str ⟨#[]⟩,.row .own 2 [],.str ⟨#[]⟩]),(3,.ptr .own (cF .own ⟨m,p,fs,g.2⟩)),(33,.bool false),(100000,.ptr .own (aJ g.1))])
   (λg hg=>by
    obtain⟨c,bd⟩:=g;simp only at hg;obtain⟨c',v,v0,v1,e1⟩:=gu c 2 (by omega) (by omega);have hw:IntKind.i64.wrap (120+v)=120+v:=cD (by omega) (by omega);by_cases h:(bd.length:Int)<120+v
    ·right;have hx:bd.length+1<=9223372036854775807:=by omega
     have hs:(⟨bd.toArray⟩:ByteArray)++⟨#[98]⟩=⟨(bd++[98]).toArray⟩:=by rw[show (⟨#[98]⟩:ByteArray)=⟨([98]:ai).toArray⟩ from rfl,kT]
     refine⟨(c',bd++[98]),by simp;omega,by simp;omega,?_⟩;simp -implicitDefEqProofs [nM,vh,jW,jX,e1,h,hw,hx,hs]
    ·left;refine⟨(c',bd),hg,?_⟩;simp -implicitDefEqProofs [nM,vh,jW,jX,e1,h,hw])
   (c3,bd) (by simp only;omega)
  have hst:aD (ev LI TT) (aH TT) nM [(0,.av 100000 [] 0 0),(2,.ptr .own [.int .i64 0,.str ⟨#[]⟩,.row .own 2 [],.str ⟨#[]⟩]),(3,.ptr .own (cF .own ⟨m,p,fs,bd⟩)),(25,.bool true),(100000,.ptr .own (aJ c3))]=aD (ev LI TT) (aH TT) nM [(0,.av 100000 [] 0 0),(2,.ptr .own [.int .i64 0,.str ⟨#[]⟩,.row .own 2 [],.str ⟨#[]⟩]),(3,.ptr .own (cF .own ⟨m,p,fs,bd⟩)),(100000,.ptr .own (aJ c3))]:=by
   obtain⟨c',v,v0,v1,e1⟩:=gu c3 2 (by omega) (by omega);have hw:IntKind.i64.wrap (120+v)=120+v:=cD (by omega) (by omega);by_cases h:(bd.length:Int)<120+v
   ·have hx:bd.length+1<=9223372036854775807:=by omega
    simp -implicitDefEqProofs [nM,vh,jW,jX,e1,h,hw,hx]
   ·simp -implicitDefEqProofs [nM,vh,jW,jX,e1,h,hw]
  have jN:=B3 hst;rw[e] at jN;simp only at hb';try simp at jN
  refine⟨c',⟨m,p,fs,Ai⟩,by simp only[bY];omega,hm,?_⟩;rw[az (b:=jv) (rs:=_) (n:=1) rfl rfl];simp -implicitDefEqProofs [jv,jW,jX,u1,u2,jN,bZ,bW,b7]
 ·refine⟨c3,⟨m,p,fs,bd⟩,by simp only[bY];omega,hm,?_⟩;rw[az (b:=jv) (rs:=_) (n:=1) rfl rfl];simp -implicitDefEqProofs [jv,jW,jX,u1,u2,g0,g1,g2,g3,bZ,bW,b7]
def T3(c:aN):∃(c':aN) (r:bh),bl r<=10000/\bI r.status/\ev LI TT 153 [.ptr .own (aJ c)]=some (.agg (cy .own r),[.ptr .own (aJ c')]):=by
 obtain⟨c1,⟨m,fs,bd⟩,hq,hm,u1⟩:=IQ c;obtain⟨c3,k,k1,k2,u2⟩:=gu c1 20 (by omega) (by omega);simp only[bl] at hq;simp only at hm;try simp at u1
 by_cases g0:k=0;·subst g0;obtain⟨c4,n,hn,u3⟩:=zx c3 [99,100,599,600,-1] (by simp) (by simp);refine⟨c4,⟨n,fs,bd⟩,by simp only[bl];omega,by unfold bI;simp at hn;simp only;omega,?_⟩;simp at u3;rw[az (b:=kQ) (rs:=_) (n:=1) rfl rfl];simp -implicitDefEqProofs [kQ,kR,kS,u1,u2,u3,bZ,bW,b7]
 by_cases g1:k=1
 ·subst g1;obtain⟨c4,mS,l1,l2,u3⟩:=IK c3;have hwf:=zq (m:=10) l2 l1;refine⟨c4,⟨m,mS,bd⟩,by simp only[bl];omega,hm,?_⟩;try simp at u3
  rw[az (b:=kQ) (rs:=_) (n:=1) rfl rfl];simp -implicitDefEqProofs [kQ,kR,kS,u1,u2,u3,bZ,bW,b7]
 by_cases g2:k=2
 ·subst g2
  obtain⟨⟨c',Ai⟩,hb',e⟩:=ue (xt:=1) (f:=aD (ev LI TT) (aH TT) nN)
   (λ(g:aN×ai)=>[(0,.av 100000 [] 0 0),(2,.ptr .own [.int .i64 0,.row .own 2 [],.str ⟨#[]⟩]),(3,.ptr .own (cy .own ⟨m,fs,g.2⟩)),(100000,.ptr .own (aJ g.1))])
   (λg=>3000 - g.2.length) (λg=>g.2.length<=2000)
   (λg=>[(0,.av 100000 [] 0 0),(2,.ptr .own [.int .i64 0,.row .own 2 [],.str ⟨#[]⟩]),(3,.ptr .own (cy .own ⟨m,fs,g.2⟩)),(27,.bool false),(100000,.ptr .own (aJ g.1))])
   (λg hg=>by
    obtain⟨c,bd⟩:=g;simp only at hg;obtain⟨c',v,v0,v1,e1⟩:=gu c 2 (by omega) (by omega);have hw:IntKind.i64.wrap (120+v)=120+v:=cD (by omega) (by omega);by_cases h:(bd.length:Int)<120+v
    ·right;have hx:bd.length+1<=9223372036854775807:=by omega
     have hs:(⟨bd.toArray⟩:ByteArray)++⟨#[98]⟩=⟨(bd++[98]).toArray⟩:=by rw[show (⟨#[98]⟩:ByteArray)=⟨([98]:ai).toArray⟩ from rfl,kT]
     refine⟨(c',bd++[98]),by simp;omega,by simp;omega,?_⟩;simp -implicitDefEqProofs [nN,vj,kR,kS,e1,h,hw,hx,hs]
    ·left;refine⟨(c',bd),hg,?_⟩;simp -implicitDefEqProofs [nN,vj,kR,kS,e1,h,hw])
   (c3,bd) (by simp only;omega)
  have hst:aD (ev LI TT) (aH TT) nN [(0,.av 100000 [] 0 0),(2,.ptr .own [.int .i64 0,.row .own 2 [],.str ⟨#[]⟩]),(3,.ptr .own (cy .own ⟨m,fs,bd⟩)),(19,.bool true),(100000,.ptr .own (aJ c3))]=aD (ev LI TT) (aH TT) nN [(0,.av 100000 [] 0 0),(2,.ptr .own [.int .i64 0,.row .own 2 [],.str ⟨#[]⟩]),(3,.ptr .own (cy .own ⟨m,fs,bd⟩)),(100000,.ptr .own (aJ c3))]:=by
   obtain⟨c',v,v0,v1,e1⟩:=gu c3 2 (by omega) (by omega);have hw:IntKind.i64.wrap (120+v)=120+v:=cD (by omega) (by omega);by_cases h:(bd.length:Int)<120+v
   ·have hx:bd.length+1<=9223372036854775807:=by omega
    simp -implicitDefEqProofs [nN,vj,kR,kS,e1,h,hw,hx]
   ·simp -implicitDefEqProofs [nN,vj,kR,kS,e1,h,hw]
  have jN:=B3 hst;rw[e] at jN;simp only at hb';try simp at jN
  refine⟨c',⟨m,fs,Ai⟩,by simp only[bl];omega,hm,?_⟩;rw[az (b:=kQ) (rs:=_) (n:=1) rfl rfl];simp -implicitDefEqProofs [kQ,kR,kS,u1,u2,jN,bZ,bW,b7]
 ·refine⟨c3,⟨m,fs,bd⟩,by simp only[bl];omega,hm,?_⟩;rw[az (b:=kQ) (rs:=_) (n:=1) rfl rfl];simp -implicitDefEqProofs [kQ,kR,kS,u1,u2,g0,g1,g2,bZ,bW,b7]
end M
namespace M
open Go
end M
namespace M
open Go
end M
set_option maxHeartbeats 4000000
namespace M
open Go
def AW(l:List ax):(ff l).length<=4*wL aB l:=by
 unfold ff;induction l with
 |nil=>simp[wL]
 |cons f l ih=>simp only[gO,fT,wL,cw,aS,nR,mP,aB,iA] at*;omega
def O6:(⟨#[58,32]⟩:ByteArray)=⟨colon.toArray⟩:=rfl
def B1:(⟨#[13,10]⟩:ByteArray)=⟨crlf.toArray⟩:=rfl
def O9:(⟨#[13,10,13,10]⟩:ByteArray)=⟨dc.toArray⟩:=rfl
def GM:(⟨#[72,84,84,80,47,49,46,49,32]⟩:ByteArray)=⟨(uy++[32]).toArray⟩:=rfl
def O7:(⟨#[32,46]⟩:ByteArray)=⟨([32,46]:ai).toArray⟩:=rfl
def O8:(⟨#[32,46,13,10]⟩:ByteArray)=⟨([32,46]++crlf:ai).toArray⟩:=rfl
def GL:(⟨#[99,111,110,116,101,110,116,45,108,101,110,103,116,104,58,32]⟩:ByteArray)=⟨(ij++colon).toArray⟩:=rfl
def xU:colon.length=2:=rfl
def xV:crlf.length=2:=rfl
def Pa:dc.length=4:=rfl
def GN:uy.length=8:=rfl
def B2:ij.length=14:=rfl
def Jw(fs:List ax)(hb:wL aB fs<=1073741824)(g:ai)(hinv:g.length<=4*(wL aB (fs.take 0))):aT (aD (ev LI TT) (aH TT) uM) [(0,.row .ah 2 (fs.map aE)),(3,.str ⟨(g).toArray⟩),(4,.int .i64 0)]=some (.exit 0,[(0,.row .ah 2 (fs.map aE)),(3,.str ⟨((foldI (λ_ g f=>g++mP f) 0 (fs) g)).toArray⟩),(4,.int .i64 (fs).length),(8,.bool false)]):=by
 refine xX (f:=aD (ev LI TT) (aH TT) uM) (fs) (λi (g:ai)=>[(0,.row .ah 2 (fs.map aE)),(3,.str ⟨(g).toArray⟩),(4,.int .i64 i)]) (λ_ g f=>g++mP f) (λg=>[(0,.row .ah 2 (fs.map aE)),(3,.str ⟨(g).toArray⟩),(4,.int .i64 (fs).length),(8,.bool false)]) (λi (g:ai)=>g.length<=4*(wL aB (fs.take i))) g hinv (λi b g hi hl hinv=>?_) (λi b g hi hinv=>?_) (λg hinv=>?_)
 ·have hw:=cq i (by have:=cv (w:=aB) fs;omega);obtain⟨_,rfl⟩:=br.1 hi;have hm:=zo (dy hl);have ht:=TR aB fs i;have q1:g.length+(fs[i]).name.length<=9223372036854775807:=by omega
  have q2:g.length+((fs[i]).name.length+2)<=9223372036854775807:=by omega
  have q3:g.length+((fs[i]).name.length+(2+(fs[i]).value.length))<=9223372036854775807:=by omega
  simp -implicitDefEqProofs [uM,CC,hl,hw,O6,B1,kT,xU,xV,mP];exact⟨by omega,by omega,by omega,by omega,by simp[colon,crlf]⟩
 ·obtain⟨hl,rfl⟩:=br.1 hi;rw[r8 hl];simp only[wL,fT,jb,Dn,cw,iA,aS,jA,nR,zz,mP,aB] at*;omega
 ·simp -implicitDefEqProofs [uM,CC]
def FF{β:Type}(f:β->ai):∀(l:List β) (i:Nat) (g:ai),foldI (λ_ g b=>g++f b) i l g=g++l.flatMap f
 |[],_,g=>by simp[foldI]
 |b::l,i,g=>by rw[foldI,FF f l];simp
def KN(fs:List ax)(hb:wL aB fs<=1073741824):ev LI TT 67 [.row .ah 2 (fs.map aE)]=some (.str ⟨(ff fs).toArray⟩,[.dead]):=by
 rw[az (b:=yu) (rs:=[.t 2]) (n:=1) rfl rfl];have u1:=Jw fs hb [] (by simp);try simp at u1
 rw[FF,pP,show fs.flatMap (λf=>mP f)=ff fs from rfl] at u1;simp -implicitDefEqProofs [yu,u1];all_goals (repeat' split)<;>first|rfl|omega|(simp_all;done)|(simp_all;omega)|skip
structure JU (r:bh):Prop where
 s0:100<=r.status
 s1:r.status<=599
 f:ef r.fields=true
 b:r.body.length<=120
 nt:bG r.status=bN r.status.toNat
 nb:bG (r.body.length:Int)=bN r.body.length
 ls:(bN r.status.toNat).length<=7
 lb:(bN r.body.length).length<=7
 Ip:lS r=uy++32::(bN r.status.toNat++32::46::(crlf++(ff r.fields++(ij++(colon++(bN r.body.length++(dc++r.body)))))))
def Ct{r:bh}(h:cI r=true):JU r:=by
 obtain⟨h1,h2,h3⟩:=Rb h;refine⟨h1.1,h1.2,h2,h3,?_,?_,ql _ (by omega),ql _ (by omega),?_⟩;·unfold bG;rw[aA (by omega)]
 ·exact Cf _ (by omega)
 ·unfold lS;rw[aA h,HE];simp[yh,BZ,colon]
def KR(r:bh)(hb:bl r<=1073741824):ev LI TT 12 [.agg (cy .ah r)]=some (.str ⟨(lS r).toArray⟩,[.dead]):=by
 rw[az (b:=uU) (rs:=[.t 2]) (n:=1) rfl rfl];have hw:bl r=wL aB r.fields+r.body.length:=rfl;have hfl:=AW r.fields;have hft:=KN r.fields (by omega);have u1:=sN r hb;try simp at u1
 have u2:=qc r.status;try simp at u2
 have u3:=qc (r.body.length:Int);try simp at u3
 by_cases hok:cI r=true;rotate_left;·have e:lS r=[]:=(Hz r).2 hok;rw[show cI r=false by simpa using hok] at u1;simp -implicitDefEqProofs [uU,u1,e]
 rw[hok] at u1;have A:=Ct hok;rw[A.nt] at u2;rw[A.nb] at u3;have a1:=A.ls;have a2:=A.lb;have a3:=A.b;try simp at hft
 rw[A.Ip];generalize ff r.fields=T at hft hfl;generalize bN r.status.toNat=D at u2 a1;generalize bN r.body.length=E at u3 a2;simp -implicitDefEqProofs [uU,u1,u2,u3,hft,GM,O8,GL,O9,kT,GN,xV,B2,xU,Pa];all_goals (try omega)
def Eu(b:ai)(hb:b.length<=1000000):ev LI TT 64 [.str ⟨b.toArray⟩]=some (.str ⟨(ij++(colon++(bN b.length++crlf))).toArray⟩,[.dead]):=by
 rw[az (b:=xN) (rs:=[.t 2]) (n:=1) rfl rfl];have l7:=ql b.length hb;have u1:=Av b.length (by omega);try simp at u1
 simp -implicitDefEqProofs [xN,u1,GL,B1,kT,B2,xU,xV];all_goals (try omega)
def Kz(r:bh)(hb:bl r<=1073741824):ev LI TT 11 [.agg (cy .ah r)]=some (.str ⟨(lS r).toArray⟩,[.dead]):=by
 rw[az (b:=tT) (rs:=[.t 2]) (n:=1) rfl rfl];have hw:bl r=wL aB r.fields+r.body.length:=rfl;have hfl:=AW r.fields;have kq:=cv (w:=aB) r.fields;have hft:=El r.fields (by omega) (by omega);have u1:=wj r hb;try simp at u1
 by_cases hok:cI r=true;rotate_left;·have e:lS r=[]:=(Hz r).2 hok;rw[show cI r=false by simpa using hok] at u1;simp -implicitDefEqProofs [tT,u1,e]
 rw[hok] at u1;have A:=Ct hok;have a0:=A.s0;have Uj:=A.s1;have a1:=A.ls;have a2:=A.lb;have a3:=A.b;have hst:r.status=((r.status.toNat:Nat):Int):=by omega
 have u2:=Av r.status.toNat (by omega);rw[<-hst] at u2;have u3:=Eu r.body (by omega);try simp at hft
 try simp at u2
 try simp at u3
 rw[A.Ip];generalize ff r.fields=T at hft hfl;generalize bN r.status.toNat=D at u2 a1;generalize bN r.body.length=E at u3 a2;simp -implicitDefEqProofs [tT,u1,hft,u2,u3,GM,O7,B1,kT,GN,xV,B2,xU];refine⟨by omega,by omega,by omega,by omega,by omega,by omega,by omega,?_⟩;simp[crlf,dc]
end M
set_option maxHeartbeats 4000000
namespace M
open Go
end M
namespace M
open Go
def pO(fs:List ax)(n:ai):ai:=(bP fs n).getD [45]
def valuesOf(ns:List ai)(fs:List ax):List ai:=ns.map (pO fs)
def TP(ns:List ai)(fs:List ax):(valuesOf ns fs).length=ns.length:=by simp[valuesOf]
def JI(ns:List ai)(fs:List ax)(hb:ns.length<=1073741824)(hf:fs.length<=9223372036854775807):aT (aD (ev LI TT) (aH TT) uZ) [(0,.row .ah 1 (ns.map eS)),(1,.row .ah 2 (fs.map aE)),(5,.row .own 1 (([]).map eS)),(6,.int .i64 0)]=some (.exit 0,[(0,.row .ah 1 (ns.map eS)),(1,.row .ah 2 (fs.map aE)),(5,.row .own 1 ((((ns).flatMap (λn=>[pO fs n]))).map eS)),(6,.int .i64 (ns).length),(13,.bool false)]):=by
 refine ud (f:=aD (ev LI TT) (aH TT) uZ) (ns) (λn=>[pO fs n]) (λi out=>[(0,.row .ah 1 (ns.map eS)),(1,.row .ah 2 (fs.map aE)),(5,.row .own 1 ((out).map eS)),(6,.int .i64 i)]) (λout=>[(0,.row .ah 1 (ns.map eS)),(1,.row .ah 2 (fs.map aE)),(5,.row .own 1 ((out).map eS)),(6,.int .i64 (ns).length),(13,.bool false)]) (λi b out hi hl hout=>?_) (λout hout=>?_)
 ·have hw:=cq i (by first|omega|(simp at hl;omega));obtain⟨_,rfl⟩:=br.1 hi;have h:=ke fs ns[i] hf;have hlo:out.length=i:=by rw[hout];exact FA _ _ _ (by omega)
  have hlz:(i+1)*16<=140737488355328:=by omega
  unfold pO;cases g:bP fs ns[i]<;>rw[g] at h;all_goals
  simp -implicitDefEqProofs [uZ,CJ,hl,hw,h,hlo,hlz,cl]
 ·simp -implicitDefEqProofs [uZ,CJ]
def KU(ns:List ai)(fs:List ax)(hb:ns.length<=1073741824)(hf:fs.length<=9223372036854775807):ev LI TT 180 [.row .ah 1 (ns.map eS),.row .ah 2 (fs.map aE)]=some (.row .own 1 ((valuesOf ns fs).map eS),[.dead,.dead]):=by
 rw[az (b:=yE) (rs:=[.t 4]) (n:=2) rfl rfl];have u1:=JI ns fs hb hf;try simp at u1
 rw[A4,show ns.map (λn=>pO fs n)=valuesOf ns fs from rfl] at u1;simp -implicitDefEqProofs [yE,u1];all_goals (repeat' split)<;>first|rfl|omega|(simp_all;done)|(simp_all;omega)|skip
end M
set_option maxHeartbeats 4000000
namespace M
open Go
def Di:Ob:=⟨[],[],[],⟨0,[],[]⟩,0⟩
end M
set_option maxHeartbeats 4000000
namespace M
open Go
structure Cc where
 ns:Bool
 nc:Bool
 pr:Bool
 mu:Bool
 ha:Bool
 z6:Int
@[simp] def dQ(c:Cc):List X:=[.bool c.ns,.bool c.nc,.bool c.pr,.bool c.mu,.bool c.ha,.int .i64 c.z6]
def dB:Cc:=⟨false,false,false,false,false,0⟩
def uw:ai:=[110,111,45,115,116,111,114,101]
def uv:ai:=[110,111,45,99,97,99,104,101]
def ux:ai:=[112,114,105,118,97,116,101]
def uu:ai:=[109,117,115,116,45,114,101,118,97,108,105,100,97,116,101]
def iQ:ai:=[109,97,120,45,97,103,101,61]
def qh(w:ai):Option Nat:=if Lib.hasPrefix w iQ=true then some ((b9 (w.drop 8)).getD 0) else none
def kg(c:Cc)(w:ai):Cc:=if w=uw then {c with ns:=true} else if w=uv then {c with nc:=true} else if w=ux then {c with pr:=true} else if w=uu then {c with mu:=true} else
 match qh w with
 |some n=>{c with ha:=true,z6:=if c.ha=true then min (n:Int) c.z6 else n}
 |none=>c
def om(v:ai):Cc:=(fS v).foldl (λc w=>kg c (bz w)) dB
def jd(fs:List ax):Cc:=om ((bP fs gi).getD [])
def Ce:(⟨#[110,111,45,115,116,111,114,101]⟩:ByteArray)=⟨uw.toArray⟩/\(⟨#[110,111,45,99,97,99,104,101]⟩:ByteArray)=⟨uv.toArray⟩/\(⟨#[112,114,105,118,97,116,101]⟩:ByteArray)=⟨ux.toArray⟩/\(⟨#[109,117,115,116,45,114,101,118,97,108,105,100,97,116,101]⟩:ByteArray)=⟨uu.toArray⟩/\(⟨#[109,97,120,45,97,103,101,61]⟩:ByteArray)=⟨iQ.toArray⟩:=⟨rfl,rfl,rfl,rfl,rfl⟩
def KY(w:ai)(hb:w.length<=1073741824):ev LI TT 229 [.str ⟨w.toArray⟩]=some (.aq [.int .i64 ((((qh w).getD 0:Nat):Int)),.bool ((qh w).isSome)],[.dead]):=by
 rw[az (b:=rO) (rs:=[.t 2,.t 3]) (n:=1) rfl rfl];have hp:=Lib.hasPrefix_of_take w iQ;have l8:iQ.length=8:=rfl;have z:iQ.toArray.size=8:=rfl;obtain⟨t1,t2,t3,t4,t5⟩:=Ce;rw[l8] at hp;unfold qh;by_cases g8:w.length<8
 ·have:Lib.hasPrefix w iQ=false:=by rw[<-hp];simp;omega
  have mT:(w.length:Int)<8:=by omega
  simp -implicitDefEqProofs [rO,t5,this,g8,mT,ByteArray.size,z,l8]
 have mT:¬(w.length:Int)<8:=by omega
 have g9:(8:Int)<=w.length:=by omega
 have g10:8<=w.length:=by omega
 have g11:decide (8<=w.length)=true:=by simp;omega
 rw[g11,Dx] at hp;by_cases g:w.take 8=iQ;rotate_left
 ·have:Lib.hasPrefix w iQ=false:=by rw[<-hp];simpa using g
  simp -implicitDefEqProofs [rO,t5,this,g8,mT,g9,g10,ByteArray.size,z,l8,Lib.extract_mk,eq_false g]
 have:Lib.hasPrefix w iQ=true:=by rw[<-hp];simpa using g
 have u1:=Ez (w.drop 8) (by simp;omega);have hz:(w.drop 8).take (w.length - 8)=w.drop 8:=List.take_of_length_le (by simp);simp -implicitDefEqProofs [rO,t5,this,g8,mT,g9,g10,ByteArray.size,z,l8,Lib.extract_mk,eq_true g,u1,hz];all_goals (repeat' split)<;>first|rfl|omega|(simp_all;done)|(simp_all;omega)|skip
def Jt(ws:List ai)(hl0:ws.length<=1073741825)(hb:∀w∈ws,w.length<=1073741824)(g:Cc):aT (aD (ev LI TT) (aH TT) kO) [(2,.ptr .own (dQ dB)),(3,.ptr .own (dQ g)),(4,.row .own 1 (ws.map eS)),(5,.int .i64 0)]=some (.exit 0,[(2,.ptr .own (dQ dB)),(3,.ptr .own (dQ ((ws).foldl (λc w=>kg c (bz w)) g))),(4,.row .own 1 (ws.map eS)),(5,.int .i64 (ws).length),(15,.bool false)]):=by
 refine B5 (f:=aD (ev LI TT) (aH TT) kO) (ws) (λi (g:Cc)=>[(2,.ptr .own (dQ dB)),(3,.ptr .own (dQ g)),(4,.row .own 1 (ws.map eS)),(5,.int .i64 i)]) (λc w=>kg c (bz w)) (λg=>[(2,.ptr .own (dQ dB)),(3,.ptr .own (dQ g)),(4,.row .own 1 (ws.map eS)),(5,.int .i64 (ws).length),(15,.bool false)]) (λ_ _=>True) g trivial (λi b g hi hl _=>?_) (λ_ _ _ _ _=>trivial) (λg _=>?_)
 ·have hw:=cq i (by first|omega|(simp at hl;omega));obtain⟨_,rfl⟩:=br.1 hi;obtain⟨t1,t2,t3,t4,t5⟩:=Ce;have hx:=hb _ (dy hl);have v1:=Ey ws[i] hx;have v2:(bz ws[i]).length<=1073741824:=by simp[bz];exact hx
  generalize bz ws[i]=w at v1 v2;have v3:=KY w v2;try simp at v1
  try simp at v3
  unfold kg;by_cases g1:w=uw;·simp -implicitDefEqProofs [kO,nE,hl,hw,v1,v3,t1,eq_true g1,dB]
  by_cases g2:w=uv;·simp -implicitDefEqProofs [kO,nE,hl,hw,v1,v3,t1,t2,eq_false g1,eq_true g2,dB]
  by_cases g3:w=ux;·simp -implicitDefEqProofs [kO,nE,hl,hw,v1,v3,t1,t2,t3,eq_false g1,eq_false g2,eq_true g3,dB]
  by_cases g4:w=uu;·simp -implicitDefEqProofs [kO,nE,hl,hw,v1,v3,t1,t2,t3,t4,eq_false g1,eq_false g2,eq_false g3,eq_true g4,dB]
  cases ha:qh w with
  |none=>rw[ha] at v3;simp at v3;simp -implicitDefEqProofs [kO,nE,hl,hw,v1,v3,t1,t2,t3,t4,eq_false g1,eq_false g2,eq_false g3,eq_false g4,dB]
  |some n=>
  rw[ha] at v3;simp at v3;cases gh:g.ha;all_goals
  simp -implicitDefEqProofs [kO,nE,hl,hw,v1,v3,t1,t2,t3,t4,eq_false g1,eq_false g2,eq_false g3,eq_false g4,gh,dB];all_goals (repeat' split)<;>first|rfl|omega|(simp_all;done)|(simp_all;omega)|skip
 ·simp -implicitDefEqProofs [kO,nE]
def KM(v:ai)(hb:v.length<=1073741824):ev LI TT 166 [.str ⟨v.toArray⟩]=some (.agg (dQ (om v)),[.dead]):=by
 rw[az (b:=yl) (rs:=[.c 2 6 true 72]) (n:=1) rfl rfl];have hm:=vC v;have hn:=zu v;have u1:=EB v hb;try simp at u1
 have u2:=Jt (fS v) (by omega) (λw hw=>by have:=hm w hw;omega) dB;try simp at u2
 rw[show (fS v).foldl (λc w=>kg c (bz w)) dB=om v from rfl] at u2;simp[dB] at u2;simp -implicitDefEqProofs [yl,u1,u2,dB];all_goals (repeat' split)<;>first|rfl|omega|(simp_all;done)|(simp_all;omega)|skip
def Aq(fs:List ax)(hb:wL aB fs<=1073741824):ev LI TT 80 [.row .ah 2 (fs.map aE)]=some (.agg (dQ (jd fs)),[.dead]):=by
 rw[az (b:=yj) (rs:=[.c 2 6 true 72]) (n:=1) rfl rfl];have hfl:=cv (w:=aB) fs;have hg:=kn fs gi;have t3:(⟨#[99,97,99,104,101,45,99,111,110,116,114,111,108]⟩:ByteArray)=⟨gi.toArray⟩:=rfl;have u1:=ke fs gi (by omega);try simp at u1
 have u2:=KM ((bP fs gi).getD []) (by omega);try simp at u2
 rw[show om ((bP fs gi).getD [])=jd fs from rfl] at u2;simp -implicitDefEqProofs [yj,u1,u2,t3];all_goals (repeat' split)<;>first|rfl|omega|(simp_all;done)|(simp_all;omega)|skip
def La{w:ai}(h:w=uw\/w=uv\/w=ux\/w=uu):Lib.hasPrefix w iQ=false:=by rcases h with rfl|rfl|rfl|rfl<;>decide
def Ku(c:Cc)(w:ai)(hb:w.length<=1073741824):ev LI TT 192 [.ptr .own (dQ c),.str ⟨w.toArray⟩]=some (.aq [],[.ptr .own (dQ (kg c w)),.dead]):=by
 rw[az (b:=lJ) (rs:=[]) (n:=2) rfl rfl];obtain⟨t1,t2,t3,t4,t5⟩:=Ce;have v3:=K5 w iQ (by omega);have hword:=La (w:=w);unfold kg;by_cases g1:w=uw;·rw[hword (Or.inl g1)] at v3;simp -implicitDefEqProofs [lJ,v3,t1,t5,eq_true g1]
 by_cases g2:w=uv;·rw[hword (by simp[g2])] at v3;simp -implicitDefEqProofs [lJ,v3,t1,t2,t5,eq_false g1,eq_true g2]
 by_cases g3:w=ux;·rw[hword (by simp[g3])] at v3;simp -implicitDefEqProofs [lJ,v3,t1,t2,t3,t5,eq_false g1,eq_false g2,eq_true g3]
 by_cases g4:w=uu;·rw[hword (by simp[g4])] at v3;simp -implicitDefEqProofs [lJ,v3,t1,t2,t3,t4,t5,eq_false g1,eq_false g2,eq_false g3,eq_true g4]
 unfold qh;cases hp:Lib.hasPrefix w iQ;·rw[hp] at v3;simp -implicitDefEqProofs [lJ,v3,t1,t2,t3,t4,t5,eq_false g1,eq_false g2,eq_false g3,eq_false g4]
 rw[hp,show Lib.trimPrefix w iQ=w.drop 8 by unfold Lib.trimPrefix;rw[hp];rfl] at v3;have v4:=Ao (w.drop 8) (by simp;omega);try simp at v3
 try simp at v4
 generalize (b9 (w.drop 8)).getD 0=n at v4;cases gh:c.ha;all_goals
 simp -implicitDefEqProofs [lJ,v3,v4,t1,t2,t3,t4,t5,eq_false g1,eq_false g2,eq_false g3,eq_false g4,gh];all_goals (repeat' split)<;>first|rfl|omega|(simp_all;done)|(simp_all;omega)|skip
def Jm(ws:List ai)(hl0:ws.length<=1073741825)(hb:∀w∈ws,w.length<=1073741824)(g:Cc):aT (aD (ev LI TT) (aH TT) tO) [(2,.ptr .own (dQ dB)),(3,.ptr .own (dQ g)),(7,.row .own 1 (ws.map eS)),(8,.int .i64 ws.length),(9,.int .i64 0)]=some (.exit 0,[(2,.ptr .own (dQ dB)),(3,.ptr .own (dQ ((ws).foldl (λc w=>kg c (bz w)) g))),(7,.row .own 1 (ws.map eS)),(8,.int .i64 ws.length),(9,.int .i64 (ws).length),(10,.bool false)]):=by
 refine B5 (f:=aD (ev LI TT) (aH TT) tO) (ws) (λi (g:Cc)=>[(2,.ptr .own (dQ dB)),(3,.ptr .own (dQ g)),(7,.row .own 1 (ws.map eS)),(8,.int .i64 ws.length),(9,.int .i64 i)]) (λc w=>kg c (bz w)) (λg=>[(2,.ptr .own (dQ dB)),(3,.ptr .own (dQ g)),(7,.row .own 1 (ws.map eS)),(8,.int .i64 ws.length),(9,.int .i64 (ws).length),(10,.bool false)]) (λ_ _=>True) g trivial (λi b g hi hl _=>?_) (λ_ _ _ _ _=>trivial) (λg _=>?_)
 ·have hw:=cq i (by first|omega|(simp at hl;omega));obtain⟨_,rfl⟩:=br.1 hi;have hx:=hb _ (dy hl);have v1:=Kv ws[i] hx;have v2:(bz ws[i]).length<=1073741824:=by simp[bz];exact hx
  have v3:=Ku g (bz ws[i]) v2;try simp at v1
  try simp at v3
  simp -implicitDefEqProofs [tO,BJ,hl,hw,v1,v3,dB];all_goals (repeat' split)<;>first|rfl|omega|(simp_all;done)|(simp_all;omega)|skip
 ·simp -implicitDefEqProofs [tO,BJ]
def Kt(v:ai)(hb:v.length<=1073741824):ev LI TT 119 [.str ⟨v.toArray⟩]=some (.agg (dQ (om v)),[.dead]):=by
 rw[az (b:=xx) (rs:=[.c 2 6 true 72]) (n:=1) rfl rfl];have hm:=vC v;have hn:=zu v;have u1:=KB v hb;try simp at u1
 have u2:=Jm (fS v) (by omega) (λw hw=>by have:=hm w hw;omega) dB;try simp at u2
 rw[show (fS v).foldl (λc w=>kg c (bz w)) dB=om v from rfl] at u2;simp[dB] at u2;simp -implicitDefEqProofs [xx,u1,u2,dB];all_goals (repeat' split)<;>first|rfl|omega|(simp_all;done)|(simp_all;omega)|skip
def Ks(fs:List ax)(hb:wL aB fs<=1073741824):ev LI TT 39 [.row .ah 2 (fs.map aE)]=some (.agg (dQ (jd fs)),[.dead]):=by
 rw[az (b:=xw) (rs:=[.c 2 6 true 72]) (n:=1) rfl rfl];have hfl:=cv (w:=aB) fs;have hg:=kn fs gi;have t3:(⟨#[99,97,99,104,101,45,99,111,110,116,114,111,108]⟩:ByteArray)=⟨gi.toArray⟩:=rfl;have u1:=ld fs gi (by omega);try simp at u1
 have u2:=Kt ((bP fs gi).getD []) (by omega);try simp at u2
 rw[show om ((bP fs gi).getD [])=jd fs from rfl] at u2;simp -implicitDefEqProofs [xw,u1,u2,t3];all_goals (repeat' split)<;>first|rfl|omega|(simp_all;done)|(simp_all;omega)|skip
end M
set_option maxHeartbeats 4000000
namespace M
open Go
def Ar(q:Rq)(hb:bY q<=1073741824):ev LI TT 78 [.agg (cF .ah q)]=some (.bool (js q),[.dead]):=by
 rw[az (b:=rD) (rs:=[.t 2]) (n:=1) rfl rfl];have lG:bY q=q.path.length+wL aB q.fields+q.body.length:=rfl;unfold js;have u1:=EF q.path (by omega);try simp at u1
 have u2:=Ew q.fields (by omega);try simp at u2
 by_cases g1:1<=q.method;rotate_left;·simp -implicitDefEqProofs [rD,u1,u2,eq_false g1]
 by_cases g2:q.method<=4;rotate_left;·simp -implicitDefEqProofs [rD,u1,u2,eq_true g1,eq_false g2]
 cases g3:iR q.path<;>cases g4:ef q.fields<;>rw[g3] at u1<;>rw[g4] at u2;all_goals
 simp -implicitDefEqProofs [rD,u1,u2,eq_true g1,eq_true g2];all_goals (repeat' split)<;>first|rfl|omega|(simp_all;done)|(simp_all;omega)|skip
def En(q:Rq)(hb:bY q<=1073741824):ev LI TT 81 [.agg (cF .ah q)]=some (.bool (js q),[.dead]):=by
 rw[az (b:=qI) (rs:=[.t 2]) (n:=1) rfl rfl];have lG:bY q=q.path.length+wL aB q.fields+q.body.length:=rfl;unfold js;have u1:=KG q.path (by omega);try simp at u1
 have u2:=Ek q.fields (by omega);try simp at u2
 by_cases g1:1<=q.method;rotate_left;·simp -implicitDefEqProofs [qI,u1,u2,eq_false g1]
 by_cases g2:q.method<=4;rotate_left;·simp -implicitDefEqProofs [qI,u1,u2,eq_true g1,eq_false g2]
 cases g3:iR q.path<;>cases g4:ef q.fields<;>rw[g3] at u1<;>rw[g4] at u2;all_goals
 simp -implicitDefEqProofs [qI,u1,u2,eq_true g1,eq_true g2];all_goals (repeat' split)<;>first|rfl|omega|(simp_all;done)|(simp_all;omega)|skip
def k7(q:Rq):Bool:=js q && decide (q.method=1) && !(jd q.fields).ns
def jC(a b:Rq):Bool:=k7 a && k7 b && decide (a.path=b.path) && decide (a.fields=b.fields)
def Et(q:Rq)(hb:bY q<=1073741824):ev LI TT 76 [.agg (cF .ah q)]=some (.bool (k7 q),[.dead]):=by
 rw[az (b:=xM) (rs:=[.t 2]) (n:=1) rfl rfl];have lG:bY q=q.path.length+wL aB q.fields+q.body.length:=rfl;unfold k7;have u1:=En q hb;try simp at u1
 have u2:=Ks q.fields (by omega);try simp at u2
 cases g3:js q<;>rw[g3] at u1;all_goals by_cases g4:q.method=1
 all_goals
 simp -implicitDefEqProofs [xM,u1,u2,g4];all_goals (repeat' split)<;>first|rfl|omega|(simp_all;done)|(simp_all;omega)|skip
def FB(a b:ax):a=b↔(a.name=b.name/\a.value=b.value):=by cases a;cases b;simp
def JQ(ps:List (ax×ax))(hb:ps.length<=9223372036854775807):aT (aD (ev LI TT) (aH TT) vE) [(0,.row .ah 2 (ps.map λx=>aE x.1)),(1,.row .ah 2 (ps.map λx=>aE x.2)),(12,.int .i64 ps.length),(13,.int .i64 0)]=if cj qp (ps)=true then some (.exit 0,[(0,.row .ah 2 (ps.map λx=>aE x.1)),(1,.row .ah 2 (ps.map λx=>aE x.2)),(12,.int .i64 ps.length),(13,.int .i64 ps.length),(14,.bool false)]) else some (.ret,[(4,.bool false)]):=by
 refine kC (f:=aD (ev LI TT) (aH TT) vE) (ps) (λi=>[(0,.row .ah 2 (ps.map λx=>aE x.1)),(1,.row .ah 2 (ps.map λx=>aE x.2)),(12,.int .i64 ps.length),(13,.int .i64 i)]) qp _ _ (λi b hi hl=>?_) ?_;·have hw:=cq i (by first|omega|(simp at hl;omega));obtain⟨_,rfl⟩:=br.1 hi;simp -implicitDefEqProofs [vE,Df,hl,hw,qp,FB];first|done|(split<;>simp_all;done)|(split<;>simp_all<;>(intro h;simp_all))
 ·simp -implicitDefEqProofs [vE,Df]
def K3(a b:List ax)(hb:a.length<=9223372036854775807):ev LI TT 77 [.row .ah 2 (a.map aE),.row .ah 2 (b.map aE)]=some (.bool (decide (a=b)),[.dead,.dead]):=by
 rw[az (b:=zy) (rs:=[.t 4]) (n:=2) rfl rfl];simp -implicitDefEqProofs [zy];by_cases h:a.length=b.length;·obtain⟨ps,rfl,rfl⟩:=Jj h;have h1:=JQ ps (by simpa using hb);have h2:=D8 ps;simp at h1;rw[<-h2];cases h3:cj qp ps<;>rw[h3] at h1<;>simp[h1,Dy]
 ·have:¬a=b:=λe=>h (by rw[e]);simp[this];omega
def Ej(a:Rq)(b:Rq)(ha:bY a<=1073741824)(hb:bY b<=1073741824):ev LI TT 15 [.agg (cF .ah a),.agg (cF .ah b)]=some (.bool (jC a b),[.dead,.dead]):=by
 rw[az (b:=oH) (rs:=[.t 4]) (n:=2) rfl rfl];have lG:bY a=a.path.length+wL aB a.fields+a.body.length:=rfl;have l2:=cv (w:=aB) a.fields;unfold jC;have u1:=Et a ha;try simp at u1
 have u2:=Et b hb;try simp at u2
 have u3:=K3 a.fields b.fields (by omega);try simp at u3
 generalize k7 a=g1 at u1;generalize k7 b=g2 at u2;generalize decide (a.fields=b.fields)=g4 at u3;cases g1;·simp -implicitDefEqProofs [oH,u1]
 cases g2;·simp -implicitDefEqProofs [oH,u1,u2]
 by_cases g3:a.path=b.path;rotate_left;·simp -implicitDefEqProofs [oH,u1,u2,eq_false g3]
 simp -implicitDefEqProofs [oH,u1,u2,u3,eq_true g3];all_goals (repeat' split)<;>first|rfl|omega|(simp_all;done)|(simp_all;omega)|skip
def Ji{α:Type}[DecidableEq α]:∀{a b:List α},(∀x∈a.zip b,¬(decide (x.1≠x.2))=true)->a.length=b.length->a=b
 |[],[],_,_=>rfl
 |x::a,y::b,h,hl=>by have h1:=h (x,y) (by simp);simp at h1;have h2:a=b:=Ji (λz hz=>h z (by simp only[zA];exact bU _ hz)) (by simpa using hl);rw[h1,h2]
def Ua{α:Type}{a b:List α}{x:α×α}(hx:x∈a.zip b)(h:x.1≠x.2):a≠b:=by
 rintro rfl
 have:∀{l:List α} {x:α×α},x∈l.zip l->x.1=x.2:=by
  intro l;induction l with
  |nil=>intro x h;simp at h
  |cons y l ih=>
   intro x h;simp only[zA,bA] at h;rcases h with rfl|h;·rfl
   ·exact ih h
 exact h (this hx)
def JK(a:List ax)(b:List ax)(hb:a.length<=9223372036854775807)(fF:b.length<=9223372036854775807):aT (aD (ev LI TT) (aH TT) rH) [(0,.row .ah 2 (a.map aE)),(1,.row .ah 2 (b.map aE)),(5,.int .i64 0)]=(dK (λx=>decide (x.1≠x.2)) 0 (a.zip b)).elim (some (.exit 0,[(0,.row .ah 2 (a.map aE)),(1,.row .ah 2 (b.map aE)),(5,.int .i64 (a.zip b).length),(15,.bool false)])) λx=>some (.ret,(λ(i:Nat) b=>[(4,.bool false)]) x.1 x.2):=by
 refine xW (f:=aD (ev LI TT) (aH TT) rH) (a.zip b) (λi=>[(0,.row .ah 2 (a.map aE)),(1,.row .ah 2 (b.map aE)),(5,.int .i64 i)]) (λx=>decide (x.1≠x.2)) (λ(i:Nat) b=>[(4,.bool false)]) _ (λi b hi hl=>?_) ?_
 ·have hw:=cq i (by first|omega|(simp at hl;omega));obtain⟨_,rfl⟩:=br.1 hi;have ha:i<a.length:=by simp at hl;omega
  have hb':i<b.length:=by simp at hl;omega
  simp -implicitDefEqProofs [rH,yH,hl,hw,ha,hb',FB]
 ·have hz:(a.zip b).length=min a.length b.length:=by simp
  rw[hz];by_cases hh:a.length<=b.length;·rw[jZ hh];simp -implicitDefEqProofs [rH,yH]
  have h1:b.length<=a.length:=by omega
  have h2:(b.length:Int)<a.length:=by omega
  have h3:b.length<a.length:=by omega
  rw[Nat.min_eq_right h1];simp -implicitDefEqProofs [rH,yH,h2,h3]
def KV(a:List ax)(b:List ax)(hb:a.length<=9223372036854775807)(fF:b.length<=9223372036854775807):ev LI TT 79 [.row .ah 2 (a.map aE),.row .ah 2 (b.map aE)]=some (.bool (decide (a=b)),[.dead,.dead]):=by
 rw[az (b:=rI) (rs:=[.t 4]) (n:=2) rfl rfl];have h:=JK a b hb fF;cases g:dK (λx:ax×ax=>decide (x.1≠x.2)) 0 (a.zip b) with
 |some x=>obtain⟨i,x⟩:=x;obtain⟨_,h1,h2⟩:=qw g;have h3:¬a=b:=Ua (me h1) (by simpa using h2);rw[g] at h;simp only[Option.elim] at h;simp -implicitDefEqProofs [rI,h,h3]
 |none=>
 have h1:=A0.1 g;rw[g] at h;simp only[Option.elim] at h;try simp at h
 by_cases hl:a.length=b.length
 ·have h2:=Ji h1 hl;subst h2;try simp at h
  simp -implicitDefEqProofs [rI,h]
 have h3:¬a=b:=λe=>hl (by rw[e]);have h4:¬(a.length:Int)=b.length:=by omega
 simp -implicitDefEqProofs [rI,h,h3,h4];all_goals (repeat' split)<;>first|rfl|omega|(simp_all;done)|(simp_all;omega)|skip
def KK(a:Rq)(b:Rq)(ha:bY a<=1073741824)(hb:bY b<=1073741824):ev LI TT 16 [.agg (cF .ah a),.agg (cF .ah b)]=some (.bool (jC a b),[.dead,.dead]):=by
 rw[az (b:=kN) (rs:=[.t 4]) (n:=2) rfl rfl];have lG:bY a=a.path.length+wL aB a.fields+a.body.length:=rfl;have Wh:bY b=b.path.length+wL aB b.fields+b.body.length:=rfl;have l2:=cv (w:=aB) a.fields;have l3:=cv (w:=aB) b.fields;unfold jC k7;have u1:=Ar a ha;try simp at u1
 have u2:=Ar b hb;try simp at u2
 have u3:=KV a.fields b.fields (by omega) (by omega);try simp at u3
 have u4:=Aq a.fields (by omega);try simp at u4
 generalize js a=g1 at u1;generalize js b=g2 at u2;cases g1;·simp -implicitDefEqProofs [kN,u1]
 cases g2;·simp -implicitDefEqProofs [kN,u1,u2]
 by_cases g4:a.method=1;rotate_left;·simp -implicitDefEqProofs [kN,u1,u2,g4]
 rw[g4] at u1;by_cases g5:b.method=1;rotate_left;·simp -implicitDefEqProofs [kN,u1,u2,g4,g5]
 rw[g5] at u2;by_cases g3:a.path=b.path;rotate_left;·simp -implicitDefEqProofs [kN,u1,u2,g4,g5,eq_false g3]
 rw[<-g3] at u2;by_cases g6:a.fields=b.fields;rotate_left;·rw[decide_eq_false g6] at u3;simp -implicitDefEqProofs [kN,u1,u2,u3,g4,g5,<-g3,eq_false g6]
 rw[decide_eq_true g6] at u3;generalize hns:(jd a.fields).ns=g7 at u4;have Gk:=hns;rw[g6] at Gk;cases g7;all_goals
 simp -implicitDefEqProofs [kN,u1,u2,u3,u4,g4,g5,<-g3,eq_true g6,hns,Gk];all_goals (repeat' split)<;>first|rfl|omega|(simp_all;done)|(simp_all;omega)|skip
end M
set_option maxHeartbeats 4000000
namespace M
open Go
end M
set_option maxHeartbeats 4000000
namespace M
open Go
end M
set_option maxHeartbeats 4000000
namespace M
open Go
end M
namespace M
open Go
end M
set_option maxHeartbeats 4000000
namespace M
open Go
def Ih{s:ai}(h:eY s=true):s.length<=20:=by unfold eY at h;simp only[au,aP] at h;omega
def Iv{s:ai}(h:eZ s=true):s.length<=60:=by unfold eZ at h;simp only[au,aP] at h;omega
def QO{s:ai}(h:iR s=true):s.length<=60:=by unfold iR at h;simp only[au,aP] at h;omega
def vA{α:Type}{w:α->Nat}{l:List α}{n m:Nat}(h:∀x∈l,w x<=n)(hl:l.length<=m):wL w l<=m*(n+1):=by
 suffices H:wL w l<=l.length*(n+1) from gv H (j0 _ hl)
 clear hl;induction l with
 |nil=>simp[wL]
 |cons x l ih=>have h1:=h x (bE ..);have h2:=ih λy hy=>h y (bU _ hy);simp only[wL,cw,aS,nR,dx,zB] at h2⊢;omega
def Cu{r:bh}(h:cI r=true):bl r<=800:=by
 have A:=Ct h;have h1:wL aB r.fields<=8*(80+1):=vA (λf hf=>by have:=LF A.f hf;have h1:=Ih this.1;have h2:=Iv this.2.1;simp only[aB];omega) (LD A.f)
 have h2:=A.b;simp only[bl];omega
def PY{o:Ob}(h:gm o=true):dJ o<=1300:=by
 have A:=PX h;have h1:=Cu A.resp;have h2:=QO A.path;have hn:∀x∈o.names,x.length<=20:=by have:=A.names;unfold kE at this;simp only[au] at this;exact λx hx=>Ih (iB.1 this.1 x hx)
 have h3:wL wS o.names<=4*(20+1):=vA hn A.n4;have h4:wL wS o.values<=4*(60+1):=vA (λx hx=>Iv (A.vals x hx)) (by have:=A.len;have:=A.n4;omega);simp only[dJ];omega
structure Jl (k:Kp):Prop where
 o:gm k.obj=true
 a:5<=k.at_/\k.at_<=19
 s:1<=k.seq/\k.seq<100000
structure Ug (i:Nat) (g:List Kp×Int):Prop where
 k:∀k∈g.1,Jl k
 n:g.1.length<=i
 m:0<=g.2/\g.2<100000
 q:∀k∈g.1,k.seq<=g.2
 a:∀k∈g.1,k.at_<5+i
 d:g.1.Pairwise λx y=>x.at_≠y.at_
end M
set_option maxHeartbeats 4000000
namespace M
open Go
end M
set_option maxHeartbeats 4000000
namespace M
open Go
end M
set_option maxHeartbeats 4000000
namespace M
open Go
def TQ(fs:List ax):wL wS (dm fs)<=(wL aB fs+1)*(wL aB fs+1):=by refine vA (λw hw=>?_) (Da fs);unfold dm at hw;obtain⟨x,hx,rfl⟩:=aL.1 hw;have h1:=vC _ x hx;have h2:=kn fs gj;simp only[wS,bz,cM];omega
end M
set_option maxHeartbeats 4000000
namespace M
open Go
end M
set_option maxHeartbeats 4000000
namespace M
open Go
def IB{α:Type}(w:α->Nat)(a b:List α):wL w (a++b)=wL w a+wL w b:=by unfold wL;simp;omega
structure Uh (s:Sh):Prop where
 d:G7 s.iF=true
 b:(s.iC.length:Int)<=5
 n:5<=s.next/\s.next<=19
 q:1<=s.seq/\s.seq<=100000
 bs:cj Ef s.iC=true
 os:G5 s.seq s.nC=true
end M
set_option maxHeartbeats 4000000
namespace M
open Go
end M
set_option maxHeartbeats 4000000
namespace M
open Go
end M
set_option maxHeartbeats 4000000
namespace M
open Go
end M
set_option maxHeartbeats 4000000
namespace M
open Go
end M
set_option maxHeartbeats 4000000
namespace M
open Go
end M
set_option maxHeartbeats 4000000
namespace M
open Go
end M
namespace M
open Go
def ny:(⟨#[97,103,101]⟩:ByteArray)=⟨bR.toArray⟩:=rfl
def KL(q:Rq)(o:Ob)(now:Int)(h1:bY q<=100000000)(h2:dJ o<=100000000)(h3:bI o.t)(h4:bI now):ev LI TT 13 [.agg (cF .ah q),.agg (gD .ah o),.int .i64 now]=some (.agg (cy .own (answer q o now)),[.dead,.dead,.dead]):=by
 rw[az (b:=oY) (rs:=[.c 6 3 true 29]) (n:=3) rfl rfl];have hw:dJ o=o.path.length+wL wS o.names+wL wS o.values+bl o.resp:=rfl;have qG:bl o.resp=wL aB o.resp.fields+o.resp.body.length:=rfl;have lG:bY q=q.path.length+wL aB q.fields+q.body.length:=rfl;have l1:=cv (w:=aB) o.resp.fields;have l2:=cv (w:=aB) q.fields;have l3:=uz (cx o.resp.fields o.t now);have l4:=CS o.resp;have l5:=cv (w:=aB) (o.resp.fields.filter di);have l6:=q9 o.resp.fields bR (bG (cx o.resp.fields o.t now));have l7:=q9 (o.resp.fields.filter di) bR (bG (cx o.resp.fields o.t now));have l8:bR.length=3:=rfl;unfold answer;have u1:=EI o.resp (by omega);try simp at u1
 have u2:=KS q o.resp.fields (by omega) (by omega);try simp at u2
 have u3:=KT o.resp (by omega);try simp at u3
 have u4:=KJ o.resp.fields o.t now (by omega) h3 h4;try simp at u4
 have u5:=qc (cx o.resp.fields o.t now);try simp at u5
 have u6:=wk o.resp.fields bR (bG (cx o.resp.fields o.t now)) (by omega);try simp at u6
 have u7:=wk (o.resp.fields.filter di) bR (bG (cx o.resp.fields o.t now)) (by omega);try simp at u7
 have u8:=sN ⟨o.resp.status,dh o.resp.fields bR (bG (cx o.resp.fields o.t now)),o.resp.body⟩ (by unfold bl;simp only;omega);try simp at u8
 have u9:=sN ⟨304,dh (o.resp.fields.filter di) bR (bG (cx o.resp.fields o.t now)),[]⟩ (by unfold bl;simp;omega);try simp at u9
 by_cases g1:fO q o.resp.fields=true
 ·by_cases g2:cI ⟨304,dh (o.resp.fields.filter di) bR (bG (cx o.resp.fields o.t now)),[]⟩=true;·simp -implicitDefEqProofs [oY,u1,u2,u3,u4,u5,u6,u7,u8,u9,g1,g2,ny,fy]
  ·simp -implicitDefEqProofs [oY,u1,u2,u3,u4,u5,u6,u7,u8,u9,g1,g2,ny,fy]
 by_cases g2:cI ⟨o.resp.status,dh o.resp.fields bR (bG (cx o.resp.fields o.t now)),o.resp.body⟩=true;·simp -implicitDefEqProofs [oY,u1,u2,u3,u4,u5,u6,u7,u8,u9,g1,g2,ny,fy]
 simp -implicitDefEqProofs [oY,u1,u2,u3,u4,u5,u6,u7,u8,u9,g1,g2,ny,fy];all_goals (repeat' split)<;>first|rfl|omega|(simp_all;done)|(simp_all;omega)|skip
def Kr(q:Rq)(o:Ob)(now:Int)(h1:bY q<=100000000)(h2:dJ o<=100000000)(h3:bI o.t)(h4:bI now):ev LI TT 10 [.agg (cF .ah q),.agg (gD .ah o),.int .i64 now]=some (.agg (cy .own (answer q o now)),[.dead,.dead,.dead]):=by
 rw[az (b:=oI) (rs:=[.c 6 3 true 29]) (n:=3) rfl rfl];have hw:dJ o=o.path.length+wL wS o.names+wL wS o.values+bl o.resp:=rfl;have qG:bl o.resp=wL aB o.resp.fields+o.resp.body.length:=rfl;have lG:bY q=q.path.length+wL aB q.fields+q.body.length:=rfl;have l1:=cv (w:=aB) o.resp.fields;have l2:=cv (w:=aB) q.fields;have l3:=uz (cx o.resp.fields o.t now);have l4:=CS o.resp;have l5:=cv (w:=aB) (o.resp.fields.filter di);have l6:=q9 o.resp.fields bR (bG (cx o.resp.fields o.t now));have l7:=q9 (o.resp.fields.filter di) bR (bG (cx o.resp.fields o.t now));have l8:bR.length=3:=rfl;unfold answer;have u1:=Es o.resp (by omega);try simp at u1
 have u2:=Eo q o.resp.fields (by omega) (by omega);try simp at u2
 have u3:=KA o.resp (by omega);try simp at u3
 have u4:=Ei o.resp.fields o.t now (by omega) h3 h4;try simp at u4
 have u5:=Kw (cx o.resp.fields o.t now);try simp at u5
 have u6:=Em o.resp.fields bR (bG (cx o.resp.fields o.t now)) (by omega);try simp at u6
 have u7:=Em (o.resp.fields.filter di) bR (bG (cx o.resp.fields o.t now)) (by omega);try simp at u7
 have u8:=wj ⟨o.resp.status,dh o.resp.fields bR (bG (cx o.resp.fields o.t now)),o.resp.body⟩ (by unfold bl;simp only;omega);try simp at u8
 have u9:=wj ⟨304,dh (o.resp.fields.filter di) bR (bG (cx o.resp.fields o.t now)),[]⟩ (by unfold bl;simp;omega);try simp at u9
 have vz:=Es ⟨304,o.resp.fields.filter di,[]⟩ (by simp only;omega);try simp at vz
 by_cases g1:fO q o.resp.fields=true
 ·by_cases g2:cI ⟨304,dh (o.resp.fields.filter di) bR (bG (cx o.resp.fields o.t now)),[]⟩=true;·simp -implicitDefEqProofs [oI,u1,u2,u3,u4,u5,u6,u7,u8,u9,vz,g1,g2,ny,fy]
  ·simp -implicitDefEqProofs [oI,u1,u2,u3,u4,u5,u6,u7,u8,u9,vz,g1,g2,ny,fy]
 by_cases g2:cI ⟨o.resp.status,dh o.resp.fields bR (bG (cx o.resp.fields o.t now)),o.resp.body⟩=true;·simp -implicitDefEqProofs [oI,u1,u2,u3,u4,u5,u6,u7,u8,u9,vz,g1,g2,ny,fy]
 simp -implicitDefEqProofs [oI,u1,u2,u3,u4,u5,u6,u7,u8,u9,vz,g1,g2,ny,fy];all_goals (repeat' split)<;>first|rfl|omega|(simp_all;done)|(simp_all;omega)|skip
end M
set_option maxHeartbeats 4000000
namespace M
open Go
end M
set_option maxHeartbeats 4000000
namespace M
open Go
end M
set_option maxHeartbeats 4000000
namespace M
open Go
end M
set_option maxHeartbeats 4000000
namespace M
open Go
end M
set_option maxHeartbeats 4000000
namespace M
open Go
end M
set_option maxHeartbeats 4000000
namespace M
open Go
end M
set_option maxHeartbeats 4000000
namespace M
open Go
end M
set_option maxHeartbeats 4000000
namespace M
open Go
end M
set_option maxHeartbeats 4000000
namespace M
open Go
structure Pl (A:List X):Prop where
 o:∀ks,X.kI ks A=A
 k:∀r p,X.ek r p A=A
 m:X.cN .ah A=A
 b:X.bare.fD A=true
end M
set_option maxHeartbeats 400000
namespace M
open Go
def ov{α β:Type}(p:α->Bool)(d:α->β)(g:List α×List β)(v:α):List α×List β:=if p v=true then (g.1,g.2++[d v]) else (g.1++[v],g.2.tail++[d v])
structure DX {α β:Type} (e d:α->β) (n:Nat) (g:List α×List β):Prop where
 n:g.1.length+g.2.length=n
 m:1<=g.2.length
 r:∀x∈g.2,∃u,x=e u\/x=d u
def DX.go{α β:Type}{e d:α->β}{n:Nat}{g:List α×List β}(h:DX e d n g)(p:α->Bool)(v:α):DX e d (n+1) (ov p d g v):=by
 obtain⟨F,M⟩:=g;have hn:=h.n;have hm:=h.m;have hr:=h.r;simp at hn hm hr;unfold ov;split
 ·refine⟨by simp;omega,by simp,λx hx=>?_⟩;rcases dz.1 hx with hx|hx;·exact hr x hx
  ·exact⟨v,.inr (by simpa using hx)⟩
 ·refine⟨by simp;omega,by simp,λx hx=>?_⟩;rcases dz.1 hx with hx|hx;·exact hr x (List.mem_of_mem_tail hx)
  ·exact⟨v,.inr (by simpa using hx)⟩
def DX.row{α β:Type}{e d:α->β}{n:Nat}{g:List α×List β}(h:DX e d n g)(p:α->Bool)(v:α)(R T:List β)(hT:T=g.1.map e++g.2++e v::R):T.length=n+1+R.length/\T[n]?=some (e v)/\g.1.length<n/\(∃u,T[g.1.length]?=some (e u)\/T[g.1.length]?=some (d u))/\(if p v=true then T.set n (d v) else (T.set n (d v)).set g.1.length (e v))=(ov p d g v).1.map e++(ov p d g v).2++R/\(if p v=true then g.1.length else g.1.length+1)=(ov p d g v).1.length:=by
 obtain⟨F,M⟩:=g;have hn:=h.n;have hm:=h.m;have hr:=h.r;simp at hn hm hr hT⊢;subst hT;obtain⟨a,M',rfl⟩:∃a M',M=a::M':=by cases M with|nil=>simp at hm|cons a M=>exact⟨_,_,rfl⟩
 have e1:n=(F.map e).length+(a::M').length:=by simp;simp at hn;omega
 have e2:F.length=(F.map e).length:=by simp
 obtain⟨u,hu⟩:=hr a (by simp);refine⟨by simp at hn⊢;omega,?_,by simp at hn;omega,⟨u,?_⟩,?_,?_⟩;·rw[e1,<-fT,<-nV];simp
 ·rw[e2];rcases hu with rfl|rfl<;>simp
 ·have s1:∀w,(F.map e++(a::M'++e v::R)).set n w=F.map e++(a::M'++w::R):=by intro w;rw[e1];simp[List.set_append,nT,Nat.add_sub_cancel]
  rw[s1];unfold ov;cases hp:p v;·simp only[hp,gx,iZ];rw[e2,Dl _ _ (ez _)];simp
  ·simp
 ·unfold ov;cases hp:p v<;>simp
end M
set_option maxHeartbeats 4000000
namespace M
open Go
end M
set_option maxHeartbeats 4000000
namespace M
open Go
end M
set_option maxHeartbeats 4000000
namespace M
open Go
end M
set_option maxHeartbeats 4000000
namespace M
open Go
end M
set_option maxHeartbeats 4000000
namespace M
open Go
end M
set_option maxHeartbeats 4000000
namespace M
open Go
def qS(q:Rq)(r:bh):Bool:=js q && cI r && decide (q.method=1) && decide (r.status=200) && !(jd q.fields).ns && !(jd r.fields).ns && !(jd r.fields).pr && (jd r.fields).ha && kE (dm r.fields)
def nA(q:Rq)(r:bh)(t:Int):Ob:=⟨q.path,dm r.fields,valuesOf (dm r.fields) q.fields,r,t⟩
def oT(q:Rq)(r:bh)(t:Int):Bool:=qS q r && gm (nA q r t)
def nB(q:Rq)(r:bh)(t:Int):Ob:=if oT q r t=true then nA q r t else Di
def Rt(c:Ca)(s:Sh):Ca:=⟨s,c.jI,c.now,c.seen,c.sent⟩
def HK(c:Ca)(q:Rq)(r:bh):Ca:=⟨c.fQ,c.jI,c.now,c.seen++[⟨q,r,c.now⟩],c.sent⟩
end M
set_option maxHeartbeats 4000000
namespace M
open Go
def zW.sub{S S':Int}{l l':List Kp}(h:zW S l)(hs:List.Sublist l' l)(hS:S<=S'):zW S' l':=
 ⟨λx hx=>by have:=h.k x (hs.subset hx);exact⟨this.1,this.2.1,this.2.2.1,by omega⟩,h.p.sublist hs⟩
structure kY (c:Ca):Prop where
 s:HP c.fQ=true
 n:0<=c.now/\c.now<=1000000
 e:c.seen.length<=1500
 t:c.sent.length<=1500
 f:c.jI.length<=5
 q:∀x∈c.jI,js x.q=true/\(1<=x.who.length/\x.who.length<=5)/\(x.xb=true->gm x.old=true)
 p:c.jI.Pairwise λx y=>jC x.q y.q=false
end M
set_option maxHeartbeats 4000000
namespace M
open Go
def kY.sent{c:Ca}(h:kY c){l:List Rp}(hl:c.sent.length+l.length<=1500):kY ⟨c.fQ,c.jI,c.now,c.seen,c.sent++l⟩:=
 ⟨h.s,h.n,h.e,by simp;omega,h.f,h.q,h.p⟩
def kY.fQ{c:Ca}(h:kY c){s:Sh}(hs:HP s=true):kY (Rt c s):=⟨hs,h.n,h.e,h.t,h.f,h.q,h.p⟩
def kY.seen{c:Ca}(h:kY c){q:Rq}{r:bh}(hl:c.seen.length<1500):kY (HK c q r):=⟨h.s,h.n,by simp[HK];omega,h.t,h.f,h.q,h.p⟩
end M
set_option maxHeartbeats 4000000
namespace M
open Go
def K1(q:Rq)(hb:q.fields.length<=1073741824):ev LI TT 74 [.agg (cF .ah q)]=some (.agg (cF .own q),[.dead]):=by
 rw[az (b:=yX) (rs:=[.c 2 4 true 26]) (n:=1) rfl rfl];have u1:=EG q.fields hb;try simp at u1
 simp -implicitDefEqProofs [yX,u1];all_goals (repeat' split)<;>first|rfl|omega|(simp_all;done)|(simp_all;omega)|skip
end M
set_option maxHeartbeats 4000000
namespace M
open Go
end M
set_option maxHeartbeats 8000000
namespace M
open Go
end M
set_option maxHeartbeats 8000000
namespace M
open Go
end M
set_option maxHeartbeats 8000000
namespace M
open Go
end M
set_option maxHeartbeats 8000000
namespace M
open Go
end M
set_option maxHeartbeats 8000000
namespace M
open Go
def Iz{fs:List ax}(hb:wL aB fs<=1000000000):(dm fs).length<=1073741824/\∀w∈dm fs,w.length<=1073741824:=by have h0:=Da fs;refine⟨by omega,λw hw=>?_⟩;unfold dm at hw;obtain⟨x,hx,rfl⟩:=aL.1 hw;have h1:=vC _ x hx;have h2:=kn fs gj;simp only[bz,cM];omega
def KO(q:Rq)(r:bh)(hq:bY q<=1000000000)(hr:bl r<=1000000000):ev LI TT 240 [.agg (cF .ah q),.agg (cy .ah r)]=some (.bool (qS q r),[.dead,.dead]):=by
 rw[az (b:=jt) (rs:=[.t 4]) (n:=2) rfl rfl];have qG:bl r=wL aB r.fields+r.body.length:=rfl;have xp:bY q=q.path.length+wL aB q.fields+q.body.length:=rfl;have V:=Iz (fs:=r.fields) (by omega);unfold qS;have u1:=Ar q (by omega);try simp at u1
 have u2:=sN r (by omega);try simp at u2
 have u3:=Aq r.fields (by omega);try simp at u3
 have u4:=Aq q.fields (by omega);try simp at u4
 have u5:=Au r.fields (by omega);try simp at u5
 have u6:=EH (dm r.fields) V.1 V.2;try simp at u6
 rw[show (cj eY (dm r.fields) && decide (((dm r.fields).length:Int)<=4))=kE (dm r.fields) from rfl] at u6;generalize kE (dm r.fields)=b6 at u6⊢;generalize dm r.fields=W at u5 u6;generalize jd r.fields=c1 at u3⊢;generalize jd q.fields=c2 at u4⊢;generalize cI r=b2 at u2⊢;generalize js q=b1 at u1⊢;obtain⟨n1,n2,n3,n4,n5,n6⟩:=c1;obtain⟨m1,m2,m3,m4,m5,m6⟩:=c2;simp only at u3 u4;cases b1;·simp -implicitDefEqProofs [jt,u1]
 cases b2;·simp -implicitDefEqProofs [jt,u1,u2]
 by_cases g1:q.method=1;rotate_left;·simp -implicitDefEqProofs [jt,u1,u2,g1]
 rw[g1] at u1;by_cases g2:r.status=200;rotate_left;·simp -implicitDefEqProofs [jt,u1,u2,g1,g2]
 rw[g2] at u2;cases m1;rotate_left;·simp -implicitDefEqProofs [jt,nG,o7,o8,nH,o9,pg,pn,u1,u2,u3,u4,g1,g2]
 cases n1;rotate_left;·simp -implicitDefEqProofs [jt,nG,o7,o8,nH,o9,pg,pn,u1,u2,u3,u4,g1,g2]
 cases n3;rotate_left;·simp -implicitDefEqProofs [jt,nG,o7,o8,nH,o9,pg,pn,u1,u2,u3,u4,g1,g2]
 cases n5;·simp -implicitDefEqProofs [jt,nG,o7,o8,nH,o9,pg,pn,u1,u2,u3,u4,g1,g2]
 simp -implicitDefEqProofs [jt,u1,u2,u3,u4,u5,u6,g1,g2,nG,o7,o8,nH,o9,pg,pn];all_goals (repeat' split)<;>first|rfl|omega|(simp_all;done)|(simp_all;omega)|skip
def PE{l:List ai}(h:kE l=true):l.length<=4:=by unfold kE at h;simp only[au,aP] at h;omega
def TN(fs:List ax)(n:ai):(pO fs n).length<=wL aB fs+1:=by
 have h:=kn fs n;unfold pO;cases hg:bP fs n with
 |none=>simp
 |some x=>rw[hg] at h;simp at h⊢;omega
def PU{q:Rq}{r:bh}(t:Int)(hm:qS q r=true)(hq:bY q<=100000000)(hr:bl r<=100000000):dJ (nA q r t)<=1073741824:=by
 unfold qS at hm;simp only[au] at hm;have hr2:=Cu hm.1.1.1.1.1.1.1.2;have hn:=PE hm.2;have qG:bl r=wL aB r.fields+r.body.length:=rfl;have xp:bY q=q.path.length+wL aB q.fields+q.body.length:=rfl;have h1:=TQ r.fields;have h2:wL aB r.fields+1<=801:=by omega
 have h3:=Nat.mul_le_mul h2 h2;have h4:wL wS (valuesOf (dm r.fields) q.fields)<=4*(wL aB q.fields+1+1):=vA (λw hw=>by unfold valuesOf at hw;obtain⟨n,_,rfl⟩:=aL.1 hw;exact TN q.fields n) (by rw[TP];exact hn)
 have e:dJ (nA q r t)=q.path.length+wL wS (dm r.fields)+wL wS (valuesOf (dm r.fields) q.fields)+bl r:=rfl;omega
def KP(q:Rq)(r:bh)(t:Int)(hq:bY q<=100000000)(hr:bl r<=100000000):ev LI TT 200 [.agg (cF .ah q),.agg (cy .ah r),.int .i64 t]=some (.aq [.agg (gD .own (nB q r t)),.bool (oT q r t)],[.dead,.dead,.dead]):=by
 rw[az (b:=rC) (rs:=[.c 6 7 true 31,.t 7]) (n:=3) rfl rfl];have qG:bl r=wL aB r.fields+r.body.length:=rfl;have xp:bY q=q.path.length+wL aB q.fields+q.body.length:=rfl;have V:=Iz (fs:=r.fields) (by omega);have Bt:=cv (w:=aB) q.fields;have Wb:=cv (w:=aB) r.fields;have u1:=KO q r (by omega) (by omega);try simp at u1
 have u2:=Au r.fields (by omega);try simp at u2
 have u3:=EI r (by omega);try simp at u3
 have u4:=KU (dm r.fields) q.fields V.1 (by omega);try simp at u4
 unfold nB oT;cases g1:qS q r<;>rw[g1] at u1;·simp -implicitDefEqProofs [rC,uP,uQ,uR,u1,Di]
 have u5:=EA (nA q r t) (PU t g1 hq hr);cases g2:gm (nA q r t)<;>rw[g2] at u5<;>simp[nA] at u5;·simp -implicitDefEqProofs [rC,uP,uQ,uR,u1,u2,u3,u4,u5,Di]
 simp -implicitDefEqProofs [rC,u1,u2,u3,u4,nA,uP,uQ,uR];all_goals (repeat' split)<;>first|rfl|omega|(simp_all;done)|(simp_all;omega)|skip
def PW{q:Rq}{r:bh}{t:Int}(h:oT q r t=true):dJ (nB q r t)<=1300:=by unfold nB;rw[aA h];unfold oT at h;simp only[au] at h;exact PY h.2
def PV{q:Rq}{r:bh}{t:Int}(h:oT q r t=true):(nB q r t).t=t:=by unfold nB;rw[aA h];rfl
def J9(q:Rq)(o:Ob)(now:Int):bl (answer q o now)<=bl o.resp+800:=by
 have ho:bl (if fO q o.resp.fields=true then fy o.resp else o.resp)<=bl o.resp:=by
  split;·have h:=CS o.resp;have e:bl o.resp=wL aB o.resp.fields+o.resp.body.length:=rfl;show wL aB (o.resp.fields.filter di)+0<=_;omega
  ·omega
 unfold answer;generalize (if fO q o.resp.fields=true then fy o.resp else o.resp)=out at ho⊢;dsimp only;split;·rename_i h;have:=Cu h;omega
 ·omega
end M
set_option maxHeartbeats 8000000
namespace M
open Go
def Pc{xt:Nat}{γ δ:Type}{f:af->bx}(st:γ->af)(μ:γ->Nat)(Inv:γ->Prop)(E:γ->af)(R:δ->af)(zY:δ->Prop)
  (h:∀g,Inv g->(∃g',Inv g'/\f (st g)=some (.exit xt,E g'))\/(∃d,zY d/\f (st g)=some (.ret,R d))\/∃g',Inv g'/\μ g'<μ g/\f (st g)=some (.normal,st g'))(g:γ)(hg:Inv g):(∃g',Inv g'/\aT f (st g)=some (.exit xt,E g'))\/∃d,zY d/\aT f (st g)=some (.ret,R d):=by
 suffices H:∀n g,μ g=n->Inv g->(∃g',Inv g'/\aT f (st g)=some (.exit xt,E g'))\/∃d,zY d/\aT f (st g)=some (.ret,R d) from H _ g rfl hg
 intro n;induction n using Nat.strongRecOn with
 |ind n ih=>
  intro g hn hI;rcases h g hI with ⟨g',h1,h2⟩|⟨d,h1,h2⟩|⟨g',h1,h2,h3⟩;·exact .inl ⟨g',h1,by rw[dS,h2];rfl⟩
  ·exact .inr ⟨d,h1,by rw[dS,h2];rfl⟩
  ·rw[dS,h3];exact ih _ (by omega) g' rfl h1
def IA{fs:List ax}{n:Nat}(h:wL aB fs<=n):fs.length<=n:=gv (cv fs) h
def TY(c:aN)(t:Int):∃(c':aN) (o:Ob),dJ o<=2000/\o.t=t/\ev LI TT 125 [.ptr .own (aJ c),.int .i64 t]=some (.agg (gD .own o),[.ptr .own (aJ c'),.dead]):=by
 have H:=Pc (xt:=0) (f:=aD (ev LI TT) (aH TT) va)
  (λ(g:aN×Nat)=>[(0,.av 100000 [] 0 0),(1,.int .i64 t),(4,.ptr .own [.str ⟨#[]⟩,.row .own 1 [],.row .own 1 [],.int .i64 0,.row .own 2 [],.str ⟨#[]⟩,.int .i64 0]),(5,.int .i64 g.2),(100000,.ptr .own (aJ g.1))])
  (λg=>20 - g.2) (λg=>g.2<=4)
  (λg=>[(0,.av 100000 [] 0 0),(1,.int .i64 t),(4,.ptr .own [.str ⟨#[]⟩,.row .own 1 [],.row .own 1 [],.int .i64 0,.row .own 2 [],.str ⟨#[]⟩,.int .i64 0]),(5,.int .i64 g.2),(11,.bool false),(100000,.ptr .own (aJ g.1))])
  (λ(d:aN×Ob)=>[(4,.ptr .own (gD .own d.2)),(100000,.ptr .own (aJ d.1))])
  (λd=>dJ d.2<=2000/\d.2.t=t)
  (λg hg=>by
   obtain⟨c,i⟩:=g;simp only at hg;by_cases h:(i:Int)<4
   ·right;have hw:=cq i (by omega);obtain⟨c1,⟨st,fs,bd⟩,hr,hst,e1⟩:=IQ c;simp only[bl] at hr;have hfl:=IA (n:=2000) (fs:=fs) (by omega);have e2:=Ev fs [99,97,99,104,101,45,99,111,110,116,114,111,108] (by omega);have d1:=E5 fs [99,97,99,104,101,45,99,111,110,116,114,111,108];have d2:=Lo fs [99,97,99,104,101,45,99,111,110,116,114,111,108];obtain⟨c2,v,hv,e3⟩:=dW c1 [[109,97,120,45,97,103,101,61,53],[109,97,120,45,97,103,101,61,50,48]] 30 (by simp) (by simp) (by simp);generalize mL fs [99,97,99,104,101,45,99,111,110,116,114,111,108]=wT at e2 d1 d2;have e4:=wk wT [99,97,99,104,101,45,99,111,110,116,114,111,108] v (by omega);have d3:=q9 wT [99,97,99,104,101,45,99,111,110,116,114,111,108] v;have d4:=Q3 wT [99,97,99,104,101,45,99,111,110,116,114,111,108] v;generalize dh wT [99,97,99,104,101,45,99,111,110,116,114,111,108] v=mS at e4 d3 d4;obtain⟨c3,⟨m,p,qf,qb⟩,hq,hm,e5⟩:=Dd c2;simp only[bY] at hq;have Ow:=IA (n:=2000) (fs:=qf) (by omega);have e6:=Ev qf [99,97,99,104,101,45,99,111,110,116,114,111,108] (by omega);have d5:=E5 qf [99,97,99,104,101,45,99,111,110,116,114,111,108];generalize mL qf [99,97,99,104,101,45,99,111,110,116,114,111,108]=yd at e6 d5;have hdl:([99,97,99,104,101,45,99,111,110,116,114,111,108]:ai).length=13:=rfl;have e7:=KP ⟨1,p,yd,[]⟩ ⟨200,mS,bd⟩ t (by simp only[bY,iA];omega) (by simp only[bl];omega);simp at e3;try simp at e1
    try simp at e2
    try simp at e4
    try simp at e5
    try simp at e6
    cases ho:oT ⟨1,p,yd,[]⟩ ⟨200,mS,bd⟩ t
    ·rw[ho] at e7;generalize nB ⟨1,p,yd,[]⟩ ⟨200,mS,bd⟩ t=ob at e7;try simp at e7
     right;refine⟨(c3,i+1),by simp only;omega,by simp only;omega,?_⟩;simp -implicitDefEqProofs [va,yG,e1,e2,e3,e4,e5,e6,e7,h,hw,bZ,bW,b7]
    ·rw[ho] at e7;have w1:=PW ho;have w2:=PV ho;generalize nB ⟨1,p,yd,[]⟩ ⟨200,mS,bd⟩ t=ob at e7 w1 w2;try simp at e7
     left;refine⟨(c3,ob),⟨by simp only;omega,by simp only;exact w2⟩,?_⟩;simp -implicitDefEqProofs [va,yG,e1,e2,e3,e4,e5,e6,e7,h,hw,bZ,bW,b7]
   ·left;refine⟨(c,i),hg,?_⟩;simp -implicitDefEqProofs [va,yG,h])
  (c,0) (by simp)
 rcases H with ⟨⟨c',i⟩,h1,e⟩|⟨⟨c',ob⟩,⟨h1,h2⟩,e⟩;·refine⟨c',⟨[47,97],[],[],⟨200,[],[]⟩,t⟩,by simp[dJ,bl,wL],rfl,?_⟩;simp at e;rw[az (b:=rG) (rs:=_) (n:=2) rfl rfl];simp -implicitDefEqProofs [rG,e,bZ,bW,b7]
 ·refine⟨c',ob,h1,h2,?_⟩;simp at e;rw[az (b:=rG) (rs:=_) (n:=2) rfl rfl];simp -implicitDefEqProofs [rG,e]
def TX(c:aN):∃(c':aN) (o:Ob),dJ o<=20000/\bI o.t/\ev LI TT 56 [.ptr .own (aJ c)]=some (.agg (gD .own o),[.ptr .own (aJ c')]):=by
 obtain⟨c1,n,n1,n2,u1⟩:=gu c 30 (by omega) (by omega);obtain⟨c2,⟨p,ns,vs,⟨st,fs,bd⟩,t⟩,ho,ht,u2⟩:=TY c1 n;obtain⟨c3,k,k1,k2,u3⟩:=gu c2 20 (by omega) (by omega);simp only[dJ,bl] at ho;simp only at ht;have hnl:=cv (w:=wS) ns;have hvl:=cv (w:=wS) vs;have tj:bI t:=by unfold bI;omega
 try simp at u2
 by_cases g0:k=0;·subst g0;obtain⟨c4,x,hx,u4⟩:=IU c3;refine⟨c4,⟨p,ns,vs,⟨st,fs,bd⟩,x⟩,by simp only[dJ,bl];omega,hx,?_⟩;rw[az (b:=iu) (rs:=_) (n:=1) rfl rfl];simp -implicitDefEqProofs [iu,u1,u2,u3,u4,bZ,bW,b7]
 by_cases g1:k=1;·subst g1;obtain⟨c4,s,hs,u4⟩:=dW c3 [[],[120],[47,32]] 100 (by simp) (by simp) (by simp);refine⟨c4,⟨s,ns,vs,⟨st,fs,bd⟩,t⟩,by simp only[dJ,bl];omega,tj,?_⟩;simp at u4;rw[az (b:=iu) (rs:=_) (n:=1) rfl rfl];simp -implicitDefEqProofs [iu,u1,u2,u3,u4,bZ,bW,b7]
 by_cases g2:k=2
 ·subst g2;have h8:(vs.length+1)*16<=140737488355328:=by omega
  refine⟨c3,⟨p,ns,vs++[[118]],⟨st,fs,bd⟩,t⟩,?_,tj,?_⟩;·simp only[dJ,bl,IB];simp only[wL,cw,iA,aS,jA,nR,zz,wS] at ho⊢;omega
  rw[az (b:=iu) (rs:=_) (n:=1) rfl rfl];simp -implicitDefEqProofs [iu,u1,u2,u3,cl,h8,bZ,bW,b7]
 by_cases g3:k=3
 ·subst g3;have h8:(ns.length+1)*16<=140737488355328:=by omega
  refine⟨c3,⟨p,ns++[[108,97,110,103]],vs,⟨st,fs,bd⟩,t⟩,?_,tj,?_⟩;·simp only[dJ,bl,IB];simp only[wL,cw,iA,aS,jA,nR,zz,wS] at ho⊢;omega
  rw[az (b:=iu) (rs:=_) (n:=1) rfl rfl];simp -implicitDefEqProofs [iu,u1,u2,u3,cl,h8,bZ,bW,b7]
 by_cases g4:k=4
 ·subst g4;obtain⟨c4,r,hr,hrs,u4⟩:=T3 c3;refine⟨c4,⟨p,ns,vs,r,t⟩,by simp only[dJ,bl] at hr⊢;omega,tj,?_⟩;try simp at u4
  rw[az (b:=iu) (rs:=_) (n:=1) rfl rfl];simp -implicitDefEqProofs [iu,u1,u2,u3,u4,bZ,bW,b7]
 ·refine⟨c3,⟨p,ns,vs,⟨st,fs,bd⟩,t⟩,by simp only[dJ,bl];omega,tj,?_⟩;rw[az (b:=iu) (rs:=_) (n:=1) rfl rfl];simp -implicitDefEqProofs [iu,u1,u2,u3,g0,g1,g2,g3,g4,bZ,bW,b7]
end M
set_option maxHeartbeats 4000000
namespace M
open Go
def G8(f:ax):Prop:=eY f.name=true/\eZ f.value=true/\f.name≠ij
def Ac{fs:List ax}{n:ai}{i:Nat}{f:ax}(h:ck fs n=some (i,f)):∀j (hj:j<fs.length),j<i->fs[j].name≠n:=by
 have key:∀(l:List ax) (k i:Nat) (f:ax),dK (λf:ax=>decide (f.name=n)) k l=some (i,f)->k<=i/\∀j (hj:j<l.length),k+j<i->l[j].name≠n:=by
  intro l;induction l with
  |nil=>intro k i f h;simp[dK] at h
  |cons a l ih=>
   intro k i f h;simp only[dK] at h;split at h
   ·injection h with h
    injection h with h1 h2
    exact⟨by omega,λj hj hlt=>by omega⟩
   ·rename_i hne;obtain⟨h1,h2⟩:=ih (k+1) i f h;refine⟨by omega,λj hj hlt=>?_⟩;cases j with
    |zero=>simpa using hne
    |succ j=>simpa using h2 j (by simpa using hj) (by omega)
 intro j hj hlt;exact(key fs 0 i f h).2 j hj (by omega)
def Af{fs:List ax}{n:ai}(h:ck fs n=none):∀f∈fs,f.name≠n:=by
 have key:∀(l:List ax) (k:Nat),dK (λf:ax=>decide (f.name=n)) k l=none->∀f∈l,f.name≠n:=by
  intro l;induction l with
  |nil=>intro k _ f hf;cases hf
  |cons a l ih=>
   intro k h f hf;simp only[dK] at h;split at h;·cases h
   ·rename_i hne;rcases bA.1 hf with rfl|hf;·simpa using hne
    ·exact ih (k+1) h f hf
 exact key fs 0 h
def Ae{fs:List ax}{i:Nat}(hi:i<fs.length)(hn:∀j (hj:j<fs.length),j<i->fs[j].name≠fs[i].name):ck fs fs[i].name=some (i,fs[i]):=by
 cases h:ck fs fs[i].name with
 |none=>exact absurd rfl (Af h _ (dy hi))
 |some x=>
  obtain⟨k,f⟩:=x;obtain⟨hk,rfl,he⟩:=od h;have h1:=Ac h;rcases Nat.lt_trichotomy k i with hl|rfl|hl;·exact absurd he (hn k hk hl)
  ·rfl
  ·exact absurd rfl (h1 i hi hl)
def Fo{fs:List ax}:ef fs=true↔(∀f∈fs,G8 f)/\(fs.map ax.name).Nodup/\fs.length<=8:=by
 unfold ef;simp only[au,aP];constructor
 ·rintro ⟨h1,h2⟩;have h1:=iB.1 h1;have hx:∀i (hi:i<fs.length),G8 fs[i]/\cV (ck fs fs[i].name)=i:=by intro i hi;have:=h1 (fs[i],i) (by rw[List.mem_iff_getElem?];exact⟨i,by simp[hi]⟩);unfold fh at this;simp only[au,aP,pT,Dt] at this;exact⟨⟨this.1.1.1,this.1.1.2,this.2⟩,this.1.2⟩
  refine⟨λf hf=>?_,?_,by omega⟩;·obtain⟨i,hi,rfl⟩:=List.mem_iff_getElem.1 hf;exact(hx i hi).1
  ·rw[IX,lY];intro i j hi hj hij e;simp only[cM] at hi hj;simp only[zQ] at e;have h3:=(hx j hj).2;cases h:ck fs fs[j].name with
   |none=>rw[h] at h3;simp[cV] at h3
   |some x=>obtain⟨k,f⟩:=x;rw[h] at h3;simp[cV] at h3;exact Ac h i hi (by omega) e
 ·rintro ⟨h1,h2,h3⟩;refine⟨iB.2 λx hx=>?_,by omega⟩;obtain⟨i,hi⟩:=List.mem_iff_getElem?.1 hx;obtain⟨hi0,rfl⟩:=br.1 hi;have hi:i<fs.length:=by simpa using hi0
  have hz:fs.zipIdx[i]'(by simpa using hi)=(fs[i],i):=by simp
  rw[hz];have ha:=h1 _ (dy hi);rw[IX,lY] at h2;have:=Ae hi λj hj hlt e=>h2 j i (by simpa using hj) (by simpa using hi) hlt (by simpa using e);unfold fh;simp only[this,cV];simp[ha.1,ha.2.1,ha.2.2]
def LA{fs:List ax}(p:ax->Bool)(h:ef fs=true):ef (fs.filter p)=true:=by rw[Fo] at h⊢;obtain⟨h1,h2,h3⟩:=h;refine⟨λf hf=>h1 f ((List.mem_filter.1 hf).1),?_,gv (DK _ _) h3⟩;exact h2.sublist ((List.filter_sublist).map _)
def LB{fs:List ax}{n v:ai}(h:ef fs=true)(hn:eY n=true)(hc:n≠ij)(hv:eZ v=true)(hl:(ck fs n).isSome=true\/fs.length<=7):ef (dh fs n v)=true:=by
 rw[Fo] at h⊢;obtain⟨h1,h2,h3⟩:=h;unfold dh;cases ha:ck fs n with
 |none=>
  rw[ha] at hl;have hl:fs.length<=7:=by rcases hl with hl|hl;cases hl;exact hl
  refine⟨λf hf=>?_,?_,by simp;omega⟩
  ·rcases dz.1 hf with hf|hf;·exact h1 f hf
   ·simp at hf;rw[hf];exact⟨hn,hv,hc⟩
  ·simp only[jb,aS,jA];rw[List.nodup_append];refine⟨h2,by simp,λa NT b hb e=>?_⟩;simp at hb;obtain⟨f,hf,rfl⟩:=aL.1 NT;exact Af ha f hf (by rw[e,hb])
 |some x=>
  obtain⟨i,f⟩:=x;obtain⟨hi,rfl,he⟩:=od ha;refine⟨λf hf=>?_,?_,by simpa using h3⟩
  ·rcases zU hf with hf|rfl;·exact h1 f hf
   ·exact⟨(h1 _ (dy hi)).1,hv,(h1 _ (dy hi)).2.2⟩
  ·have:(fs.set i ⟨fs[i].name,v⟩).map ax.name=fs.map ax.name:=by
    rw[Je];refine List.ext_getElem (by simp) λj h4 h5=>?_;rw[List.getElem_set];split;·rename_i e;subst e;simp
    ·rfl
   rw[this];exact h2
def NG{fs:List ax}{n v:ai}:bP (dh fs n v) n=some v:=by
 unfold dh;cases ha:ck fs n with
 |none=>
  have h0:=Af ha
  have:ck (fs++[⟨n,v⟩]) n=some (fs.length,⟨n,v⟩):=by
   have:=Ae (fs:=fs++[⟨n,v⟩]) (i:=fs.length) (by simp) (λj hj hlt=>by simp[List.getElem_append_left hlt];exact h0 _ (dy hlt))
   simpa using this
  simp[bP,this]
 |some x=>
  obtain⟨i,f⟩:=x;obtain⟨hi,rfl,he⟩:=od ha;have h1:=Ac ha
  have:ck (fs.set i ⟨fs[i].name,v⟩) n=some (i,⟨fs[i].name,v⟩):=by
   have:=Ae (fs:=fs.set i ⟨fs[i].name,v⟩) (i:=i) (by simpa using hi) (λj hj hlt=>by rw[List.getElem_set_ne (by omega),List.getElem_set_self];exact λe=>h1 j (by simpa using hj) hlt (e.trans he))
   rw[List.getElem_set_self] at this;simp only at this;rw[he] at this⊢;exact this
  simp[bP,this]
def DW(fs:List ax)(t now:Int):0<=cx fs t now/\cx fs t now<=1000000:=by unfold cx plus within;omega
def TH{s:ai}(h:∀b∈s,b≠32):dH s=s:=by
 have hd:∀l:ai,(∀b∈l,b≠32)->l.dropWhile (· ==32)=l:=by
  intro l hl;cases l with
  |nil=>rfl
  |cons a l=>rw[pW,aC (by simpa using hl a bE)]
 unfold dH Lib.trimB Lib.trimLeftB Lib.trimRightB;rw[hd s.reverse (λb hb=>h b (List.mem_reverse.1 hb)),Dk,hd s h]
def PT{n:Int}(h0:0<=n)(h1:n<=1000000):eZ (bG n)=true/\b9 (bG n)=some n.toNat:=by
 obtain⟨k,rfl⟩:=Int.eq_ofNat_of_zero_le h0;refine⟨?_,by rw[G4 k (by omega)];simp⟩
 have hd:∀b∈bG (k:Int),48<=b.toNat/\b.toNat<=57:=by
  unfold bG;split;·intro b hb;have:=iB.1 (AF k) b (by simpa using hb);simpa [eT] using this
  ·simp
 have hl:1<=(bG (k:Int)).length/\(bG (k:Int)).length<=7:=by
  refine⟨?_,uz _⟩;rcases Dp (bG (k:Int)).length with h|h;·have h2:=G4 k (by omega);rw[zL h] at h2;rw[show b9 []=none by decide+kernel] at h2;cases h2
  ·exact h
 unfold eZ;simp only[au,aP];refine⟨⟨iB.2 λb hb=>?_,by omega,by omega⟩,TH λb hb e=>?_⟩;·have:=hd b hb;simp[gq];omega
 ·have:=hd b hb;rw[e] at this;revert this;decide
def J8{q:Rq}{o:Ob}{now:Int}(h:gm o=true):cI (answer q o now)=true/\(∀v,bP (answer q o now).fields bR=some v->b9 v=some (cx o.resp.fields o.t now).toNat)/\(((answer q o now).status=304/\(answer q o now).body=[]/\fO q o.resp.fields=true)\/((answer q o now).status=o.resp.status/\(answer q o now).body=o.resp.body)):=by
 have hr:cI o.resp=true:=by unfold gm at h;simp only[au] at h;exact h.1.1.1.1.1.1
 have hbase:∃out:bh,out=(if fO q o.resp.fields=true then fy o.resp else o.resp)/\cI out=true/\((out.status=304/\out.body=[]/\fO q o.resp.fields=true)\/(out.status=o.resp.status/\out.body=o.resp.body)):=by
  refine⟨_,rfl,?_⟩;split;·rename_i hs;refine⟨?_,.inl ⟨rfl,rfl,hs⟩⟩;unfold cI at hr⊢;simp only[au,aP] at hr⊢;exact⟨⟨by simp[fy],LA _ hr.1.2⟩,by simp[fy]⟩
  ·exact⟨hr,.inr ⟨rfl,rfl⟩⟩
 obtain⟨out,ho,h1,h2⟩:=hbase;have hb:=DW o.resp.fields o.t now;obtain⟨n1,n2⟩:=PT hb.1 hb.2;have ha:answer q o now=if cI ⟨out.status,dh out.fields bR (bG (cx o.resp.fields o.t now)),out.body⟩=true then ⟨out.status,dh out.fields bR (bG (cx o.resp.fields o.t now)),out.body⟩ else out:=by unfold answer;rw[<-ho]
 rw[ha];by_cases hw:cI ⟨out.status,dh out.fields bR (bG (cx o.resp.fields o.t now)),out.body⟩=true
 ·rw[aA hw];refine⟨hw,λv hv=>?_,h2⟩;rw[NG] at hv;injection hv with hv
  rw[<-hv];exact n2
 ·rw[aC hw];refine⟨h1,λv hv=>?_,h2⟩;exfalso;apply hw;unfold cI at h1⊢;simp only[au,aP] at h1⊢;refine⟨⟨h1.1.1,LB h1.1.2 (by decide) (by decide) n1 (.inl ?_)⟩,h1.2⟩;unfold bP at hv;cases hx:ck out.fields bR with
  |none=>rw[hx] at hv;cases hv
  |some x=>rfl
def J7(a b:Rq):jC b a=jC a b:=by unfold jC;rw[Bool.and_comm (k7 b),decide_eq_decide.2 (eq_comm (a:=b.path)),decide_eq_decide.2 (eq_comm (a:=b.fields))]
end M
set_option maxHeartbeats 8000000
namespace M
open Go
def KI(code:List UInt8):ev LI TT 8 [.row .ah 1 (code.map eU)]=some (.bool (decide (1048576<code.length)),[.dead]):=by rw[az (b:=xS) (rs:=[.t 2]) (n:=1) rfl rfl];simp -implicitDefEqProofs [xS];omega
def TW(code:List UInt8)(hl:code.length<=1048576):∃(q:Rq) (o:Ob) (now:Int),bY q<=10000/\dJ o<=20000/\bI o.t/\bI now/\∃ps,ev LI TT 9 [.row .sl 1 (code.map eU)]=some (.aq [.agg (cF .own q),.agg (gD .own o),.int .i64 now],ps):=by
 obtain⟨c,hc⟩:=IJ code hl;obtain⟨c1,q,hq,hm,u1⟩:=IM c;obtain⟨c2,o,ho,ht,u2⟩:=TX c1;obtain⟨c3,now,hn,u3⟩:=IU c2;refine⟨q,o,now,hq,ho,ht,hn,?_⟩;try simp at u1
 try simp at u2
 rw[az (b:=ym) (rs:=_) (n:=1) rfl rfl];simp -implicitDefEqProofs [ym,Cz,yo,CA,CB,hc,u1,u2,u3]
def TV(code:List UInt8)(hl:code.length<=1048576):∃(a b:Rq),bY a<=10000/\bY b<=20000/\∃ps,ev LI TT 14 [.row .sl 1 (code.map eU)]=some (.aq [.agg (cF .own a),.agg (cF .own b)],ps):=by
 obtain⟨c,hc⟩:=IJ code hl;obtain⟨c1,a,ha,hm,u1⟩:=IM c;obtain⟨c2,b,u2⟩:=vD c1 2 (by omega);try simp at u1
 cases b
 ·obtain⟨c3,b,hb,hm2,u3⟩:=Dd c2;refine⟨a,b,ha,by omega,?_⟩;try simp at u3
  rw[az (b:=nF) (rs:=_) (n:=1) rfl rfl];simp -implicitDefEqProofs [nF,uK,uL,hc,u1,u2,u3]
 ·have u3:=K1 a (by have:=cv (w:=aB) a.fields;simp only[bY] at ha;omega);obtain⟨c3,b,u4⟩:=vD c2 3 (by omega);try simp at u3
  cases b;·refine⟨a,a,ha,by omega,?_⟩;rw[az (b:=nF) (rs:=_) (n:=1) rfl rfl];simp -implicitDefEqProofs [nF,uK,uL,hc,u1,u2,u3,u4]
  ·refine⟨a,⟨a.method,a.path,a.fields,[120]⟩,ha,by simp only[bY,cw,iA] at ha⊢;omega,?_⟩;rw[az (b:=nF) (rs:=_) (n:=1) rfl rfl];simp -implicitDefEqProofs [nF,uK,uL,hc,u1,u2,u3,u4]
def KF:ev LI TT 82 [.int .i64 1]=some (.str ⟨#[71,69,84]⟩,[.dead]):=by rw[az (b:=xO) (rs:=[.t 2]) (n:=1) rfl rfl];have hw0:IntKind.i64.wrap 0=0:=cD (by omega) (by omega);simp -implicitDefEqProofs [xO,hw0]
def TU(q:Rq)(h:js q=true)(hm:q.method=1)(hw:bY q<=1000000):∃t:ai,t.length<=1000000000/\ev LI TT 17 [.agg (cF .ah q)]=some (.str ⟨([71,69,84,32]++t).toArray⟩,[.dead]):=by
 have xp:bY q=q.path.length+wL aB q.fields+q.body.length:=rfl;have hfl:=AW q.fields;have kq:=cv (w:=aB) q.fields;have hft:=El q.fields (by omega) (by omega);have u1:=En q (by omega);have u2:=KF;have u3:=Eu q.body (by omega);have hdl:=ql q.body.length (by omega);rw[h] at u1;obtain⟨m,p,fs,bd⟩:=q;simp only at hm xp hfl kq hft u3 hdl;subst hm;try simp at hft
 try simp at u1
 try simp at u3
 generalize ff fs=T at hft hfl;generalize bN bd.length=E at u3 hdl;by_cases hb:bd=[];·subst hb;refine⟨p++([32,72,84,84,80,47,49,46,49,13,10]++(T++[13,10])),by simp;omega,?_⟩;rw[az (b:=qJ) (rs:=[.t 2]) (n:=1) rfl rfl];simp -implicitDefEqProofs [qJ,u1,u2,u3,hft,kT];omega
 ·have hc1:colon.length=2:=rfl;have hc2:crlf.length=2:=rfl;refine⟨p++([32,72,84,84,80,47,49,46,49,13,10]++(T++(ij++(colon++(E++crlf))++([13,10]++bd)))),by simp[ij,colon,crlf];omega,?_⟩;rw[az (b:=qJ) (rs:=[.t 2]) (n:=1) rfl rfl];simp -implicitDefEqProofs [qJ,u1,u2,u3,hft,kT,hb];omega
def WH(code:List UInt8)(k:code.length<=9223372036854775807/\∀b∈code,True):∃ps,ev LI TT 3 [.row .sl 1 (code.map eU)]=some (.bool true,ps):=by
 rw[az (b:=ic) (rs:=[.t 2]) (n:=1) rfl rfl];have h1:=KI code;by_cases hbig:1048576<code.length;·simp -implicitDefEqProofs [ic,h1,hbig]
 obtain⟨q,o,now,hq,ho,BC,Bz,ps1,u1⟩:=TW code (by omega);obtain⟨a,b,ha,hb,ps2,u2⟩:=TV code (by omega);have u3:=Kr q o now (by omega) (by omega) BC Bz;have u4:=KL q o now (by omega) (by omega) BC Bz;have hr:=J9 q o now;have how:dJ o=o.path.length+wL wS o.names+wL wS o.values+bl o.resp:=rfl;have Wf:bl o.resp=wL aB o.resp.fields+o.resp.body.length:=rfl;have Wc:=cv (w:=aB) o.resp.fields;have Wd:bY q=q.path.length+wL aB q.fields+q.body.length:=rfl;have We:=cv (w:=aB) q.fields;have u7:=Ej a b (by omega) (by omega);have u8:=KK a b (by omega) (by omega);have u9:=Ej b a (by omega) (by omega);rw[J7] at u9;have v2:=EA o (by omega);have v5:=Ei o.resp.fields o.t now (by omega) BC Bz;have v7:=Eo q o.resp.fields (by omega) (by omega);have hbase:(gm o=true->cI (answer q o now)=true/\(∀v,bP (answer q o now).fields bR=some v->b9 v=some (cx o.resp.fields o.t now).toNat)/\(((answer q o now).status=304/\(answer q o now).body=[]/\fO q o.resp.fields=true)\/((answer q o now).status=o.resp.status/\(answer q o now).body=o.resp.body))):=λh=>J8 h;have NU:=DW o.resp.fields o.t now;generalize answer q o now=r at u3 u4 hr hbase;have hrw:bl r=wL aB r.fields+r.body.length:=rfl;have hrl:=cv (w:=aB) r.fields;have u5:=Kz r (by omega);have u6:=KR r (by omega);have v3:=ld r.fields bR (by omega);have jL:=kn r.fields bR;have v4:=Ao ((bP r.fields bR).getD []) (by omega);have v6:=wj r (by omega);have Oy:jC a b=true->∃t:ai,t.length<=1000000000/\ev LI TT 17 [.agg (cF .ah a)]=some (.str ⟨([71,69,84,32]++t).toArray⟩,[.dead]):=by intro h;unfold jC k7 at h;simp only[au,aP] at h;exact TU a h.1.1.1.1.1 h.1.1.1.1.2 (by omega)
 generalize cx o.resp.fields o.t now=ag at v5 hbase NU;generalize lS r=rt at u5 u6;obtain⟨n,rfl⟩:∃n:Nat,ag=n:=⟨ag.toNat,by omega⟩;try simp at u1
 try simp at u2
 try simp at u3
 try simp at u4
 try simp at u5
 try simp at u6
 try simp at u7
 try simp at u8
 try simp at u9
 try simp at v2
 try simp at v5
 try simp at v6
 try simp at v7
 cases hal:jC a b
 ·rw[hal] at u7 u8 u9;cases hok:gm o;·rw[hok] at v2;simp -implicitDefEqProofs [ic,h1,hbig,u1,u2,u3,u4,u5,u6,u7,u8,u9,v2]
  rw[hok] at v2;obtain⟨r1,r2,r3⟩:=hbase hok;rw[r1] at v6;cases hg:bP r.fields bR with
  |none=>
   rw[hg] at v3 v4;simp[bR] at v3 v4;rcases r3 with ⟨s1,s2,s3⟩|⟨s1,s2⟩;·rw[s3] at v7;simp -implicitDefEqProofs [ic,h1,hbig,u1,u2,u3,u4,u5,u6,u7,u8,u9,v2,v3,v4,v5,v6,v7,eq_true s1,eq_true s2]
   ·rcases Classical.propComplete (r.status=304) with t1|t1<;>rcases Classical.propComplete (r.body=[]) with t2|t2<;>cases t3:fO q o.resp.fields<;>rw[t3] at v7;all_goals simp -implicitDefEqProofs [ic,h1,hbig,u1,u2,u3,u4,u5,u6,u7,u8,u9,v2,v3,v4,v5,v6,v7,eq_true s1,eq_true s2,t1,t2]
  |some v=>
   have hv:=r2 v hg;rw[hg] at v3 v4;simp only[zE] at v3 v4;rw[hv] at v4;simp[bR] at v3 v4;rcases r3 with ⟨s1,s2,s3⟩|⟨s1,s2⟩;·rw[s3] at v7;simp -implicitDefEqProofs [ic,h1,hbig,u1,u2,u3,u4,u5,u6,u7,u8,u9,v2,v3,v4,v5,v6,v7,eq_true s1,eq_true s2]
   ·rcases Classical.propComplete (r.status=304) with t1|t1<;>rcases Classical.propComplete (r.body=[]) with t2|t2<;>cases t3:fO q o.resp.fields<;>rw[t3] at v7;all_goals simp -implicitDefEqProofs [ic,h1,hbig,u1,u2,u3,u4,u5,u6,u7,u8,u9,v2,v3,v4,v5,v6,v7,eq_true s1,eq_true s2,t1,t2]
 ·rw[hal] at u7 u8 u9;obtain⟨t,ht,w⟩:=Oy hal;try simp at w
  have h4:(4:Int)<=(t.length:Int)+1+1+1+1:=by omega
  cases hok:gm o;·rw[hok] at v2;simp -implicitDefEqProofs [ic,h1,hbig,u1,u2,u3,u4,u5,u6,u7,u8,u9,v2,w,h4,Lib.extract_mk]
  rw[hok] at v2;obtain⟨r1,r2,r3⟩:=hbase hok;rw[r1] at v6;cases hg:bP r.fields bR with
  |none=>
   rw[hg] at v3 v4;simp[bR] at v3 v4;rcases r3 with ⟨s1,s2,s3⟩|⟨s1,s2⟩;·rw[s3] at v7;simp -implicitDefEqProofs [ic,h1,hbig,u1,u2,u3,u4,u5,u6,u7,u8,u9,v2,w,h4,Lib.extract_mk,v3,v4,v5,v6,v7,eq_true s1,eq_true s2]
   ·rcases Classical.propComplete (r.status=304) with t1|t1<;>rcases Classical.propComplete (r.body=[]) with t2|t2<;>cases t3:fO q o.resp.fields<;>rw[t3] at v7;all_goals simp -implicitDefEqProofs [ic,h1,hbig,u1,u2,u3,u4,u5,u6,u7,u8,u9,v2,w,h4,Lib.extract_mk,v3,v4,v5,v6,v7,eq_true s1,eq_true s2,t1,t2]
  |some v=>
   have hv:=r2 v hg;rw[hg] at v3 v4;simp only[zE] at v3 v4;rw[hv] at v4;simp[bR] at v3 v4;rcases r3 with ⟨s1,s2,s3⟩|⟨s1,s2⟩;·rw[s3] at v7;simp -implicitDefEqProofs [ic,h1,hbig,u1,u2,u3,u4,u5,u6,u7,u8,u9,v2,w,h4,Lib.extract_mk,v3,v4,v5,v6,v7,eq_true s1,eq_true s2]
   ·rcases Classical.propComplete (r.status=304) with t1|t1<;>rcases Classical.propComplete (r.body=[]) with t2|t2<;>cases t3:fO q o.resp.fields<;>rw[t3] at v7;all_goals simp -implicitDefEqProofs [ic,h1,hbig,u1,u2,u3,u4,u5,u6,u7,u8,u9,v2,w,h4,Lib.extract_mk,v3,v4,v5,v6,v7,eq_true s1,eq_true s2,t1,t2]
end M
